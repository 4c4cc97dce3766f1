import JvmDerived
import JvmDerived.Pilot.@@N@@Statement
import JvmDerived.Pilot.@@N@@Code
set_option linter.unusedVariables false
set_option linter.unusedSimpArgs false
set_option maxRecDepth 20000
namespace Jvm.JX
open Sem ClassFile Op Lib
abbrev Cel : Type := FieldType × Nat × Bool × (Nat → Value)
abbrev AH : Type := Nat × (Nat → Cel)
abbrev MInfo : Type := Nat × Nat × Nat × Option FieldType × Jvm.Room
abbrev Prog : Type := (Nat → Nat → Option (Instr × Nat × Int)) × (Nat → MInfo) × (Nat → FieldType) × Nat
abbrev Fm : Type := Nat × List Slot × List Value × Nat × Nat × AH
def na (P : Prog) (m : Nat) : Nat := (P.2.1 m).1
def ml (P : Prog) (m : Nat) : Nat := (P.2.1 m).2.1
def kd (P : Prog) (m : Nat) : Nat := (P.2.1 m).2.2.1
def rt (P : Prog) (m : Nat) : Option FieldType := (P.2.1 m).2.2.2.1
def rm (P : Prog) (m : Nat) : Jvm.Room := (P.2.1 m).2.2.2.2
def isO (H : AH) (a : Nat) : Bool := match (H.2 a).1 with | .object _ => true | _ => false
def isOw (H : AH) (a : Nat) : Bool := isO H a && (H.2 a).2.2.1
def inA (H : AH) (a : Nat) (t : FieldType) (i : Int32) : Bool := decide ((H.2 a).1 = .array t) && !decide (i < 0) && decide (i.toNatClampNeg < (H.2 a).2.1)
def inAw (H : AH) (a : Nat) (t : FieldType) (i : Int32) : Bool := inA H a t i && (H.2 a).2.2.1
def isA (H : AH) (a : Nat) : Bool := match (H.2 a).1 with | .array _ => true | _ => false
def elt (H : AH) (a : Nat) (i : Int32) : Value := (H.2 a).2.2.2 i.toNatClampNeg
def fld (H : AH) (a k : Nat) : Value := (H.2 a).2.2.2 k
def alen (H : AH) (a : Nat) : Nat := (H.2 a).2.1
def wr (H : AH) (a j : Nat) (v : Value) : AH := (H.1, fun b => if b = a then ((H.2 a).1, (H.2 a).2.1, (H.2 a).2.2.1, fun i => if i = j then v else (H.2 a).2.2.2 i) else H.2 b)
def okv : FieldType → Value → Bool
  | .int, .int _ => true
  | .boolean, .int z => z == 0 || z == 1
  | .byte, .int z => z.toInt8.toInt32 == z
  | .long, .long _ => true
  | .array _, .ref _ => true
  | _, _ => false
def mkO (P : Prog) (H : AH) : AH := (H.1 + 1, fun b => if b = H.1 then (.object "", P.2.2.2, true, fun k => defaultValue (P.2.2.1 k)) else H.2 b)
def mkA (t : FieldType) (n : Nat) (H : AH) : AH := (H.1 + 1, fun b => if b = H.1 then (.array t, n, true, fun _ => defaultValue t) else H.2 b)
def cat1 : Slot → Bool | .unset => true | .val v => v.category == 1 | .second => false
def cs (S : List Value) : Nat := (S.map fun v => v.category).sum
def stl (L : List Slot) (i : Nat) (v : Value) : Option (List Slot) :=
  match L[i]? with
  | some .unset => some (L.set i (.val v))
  | some (.val w) => if w.category = 1 then some (L.set i (.val v)) else if i + 1 < L.length then some ((L.set (i + 1) .unset).set i (.val v)) else none
  | some .second => if 1 ≤ i then some ((L.set (i - 1) .unset).set i (.val v)) else none
  | none => none
def lng : Slot → Bool | .val v => v.category == 2 | _ => false
def stL (L : List Slot) (i : Nat) (v : Value) : Option (List Slot) :=
  match L[i]?, L[i + 1]? with
  | some (.val w), some o2 => if w.category = 2 then some ((L.set i (.val v)).set (i + 1) .second) else if cat1 o2 = true then some ((L.set i (.val v)).set (i + 1) .second) else if lng o2 = true ∧ i + 2 < L.length then some (((L.set i (.val v)).set (i + 2) .unset).set (i + 1) .second) else none
  | some .unset, some o2 => if cat1 o2 = true then some ((L.set i (.val v)).set (i + 1) .second) else if lng o2 = true ∧ i + 2 < L.length then some (((L.set i (.val v)).set (i + 2) .unset).set (i + 1) .second) else none
  | some .second, some o2 => if 1 ≤ i then (if cat1 o2 = true then some (((L.set (i - 1) .unset).set i (.val v)).set (i + 1) .second) else if lng o2 = true ∧ i + 2 < L.length then some ((((L.set (i - 1) .unset).set i (.val v)).set (i + 2) .unset).set (i + 1) .second) else none) else none
  | _, _ => none
def ent (P : Prog) (m : Nat) (a : List Value) : List Slot := Sym.laidSlots a ++ List.replicate (ml P m - (Sym.laidSlots a).length) .unset
def ilen : Instr → Nat
  | .bipush _ | .iload _ | .istore _ | .aload _ | .astore _ | .lload _ | .lstore _ | .newarray _ | .ldc _ => 2
  | .sipush _ | .getfield _ | .putfield _ | .new _ | .invokevirtual _ | .invokestatic _ | .invokespecial _ | .ldc2_w _ | .goto _ | .ifCond _ _ | .if_icmp _ _ | .iinc _ _ => 3
  | _ => 1
def ldI (L : List Slot) (i : Nat) : Option Value := match L[i]? with | some (.val (.int x)) => some (.int x) | _ => none
def ldJ (L : List Slot) (i : Nat) : Option Value := match L[i]? with | some (.val (.long x)) => some (.long x) | _ => none
def ldR (L : List Slot) (i : Nat) : Option Value := match L[i]? with | some (.val (.ref x)) => some (.ref x) | _ => none
def jmp (pc : Nat) (o : Int) : Option Nat := if 0 ≤ (pc : Int) + o then some ((pc : Int) + o).toNat else none
def ret (P : Prog) (m : Nat) (ins : Instr) (S : List Value) : Option (Option Value) :=
  match ins with
  | .return_ => if rt P m = none ∧ S = [] then some none else none
  | .ireturn => match S, rt P m with
    | .int z :: _, some .int => some (some (.int z))
    | .int z :: _, some .boolean => if z = 0 ∨ z = 1 then some (some (.int z)) else none
    | _, _ => none
  | .lreturn => match S, rt P m with
    | .long z :: _, some .long => some (some (.long z))
    | _, _ => none
  | _ => none
def rcv (H : AH) : List Value → Bool | .ref a :: _ => isO H a | _ => false
def may (P : Prog) (m m' : Nat) (a r : List Value) (k n : Nat) (H : AH) : Bool :=
  decide ((Sym.laidSlots a).length ≤ ml P m') && decide (a.length = na P m') && decide ((rm P m').frames + 1 ≤ (rm P m).frames) && decide (cs r + (ml P m' + 11) + (rm P m').locals ≤ (rm P m).locals)
    && (decide ((rm P m').cells = 0 ∧ (rm P m').slots = 0) || decide (k + (rm P m').cells ≤ (rm P m).cells ∧ n + (rm P m').slots ≤ (rm P m).slots))
    && (decide (kd P m' = 0) || rcv H a)
def kindOk : Instr → Nat → Bool
  | .invokevirtual _, k => k == 1 || k == 2
  | .invokestatic _, k => k == 0
  | .invokespecial _, k => k == 3
  | _, _ => false
def cal1 (P : Prog) (m : Nat) (ins : Instr) (aux : Int) (S : List Value) (k n : Nat) (H : AH) : Option (Nat × List Value × List Value) :=
  if 0 ≤ aux ∧ kindOk ins (kd P aux.toNat) = true ∧ may P m aux.toNat (S.take (na P aux.toNat)).reverse (S.drop (na P aux.toNat)) k n H = true
  then some (aux.toNat, (S.take (na P aux.toNat)).reverse, S.drop (na P aux.toNat)) else none
def cal (P : Prog) (m : Nat) (ins : Instr) (aux : Int) (S : List Value) (k n : Nat) (H : AH) : Option (Nat × List Value × List Value) :=
  match ins with
  | .invokevirtual _ | .invokestatic _ | .invokespecial _ => cal1 P m ins aux S k n H
  | _ => none
def opI : Instr → Option (Int32 → Int32 → Int32)
  | .iadd => some fun x y => x + y
  | .isub => some fun x y => x - y
  | .imul => some fun x y => x * y
  | .iand => some fun x y => x &&& y
  | .ior => some fun x y => x ||| y
  | .ixor => some fun x y => x ^^^ y
  | .ishl => some fun x y => x <<< (y &&& 31)
  | .ishr => some fun x y => x >>> (y &&& 31)
  | .iushr => some Jvm.Free.XT.ushr
  | _ => none
def opJ : Instr → Option (Int64 → Int64 → Int64)
  | .ladd => some fun x y => x + y
  | .lsub => some fun x y => x - y
  | .lmul => some fun x y => x * y
  | .land => some fun x y => x &&& y
  | .lor => some fun x y => x ||| y
  | .lxor => some fun x y => x ^^^ y
  | _ => none
def opS : Instr → Option (Int64 → Int32 → Int64)
  | .lshl => some fun x y => x <<< (y.toInt64 &&& 63)
  | .lshr => some fun x y => x >>> (y.toInt64 &&& 63)
  | .lushr => some Jvm.Free.XT.ushrL
  | _ => none
def stp (P : Prog) (m : Nat) (ins : Instr) (len : Nat) (aux : Int) (pc : Nat) (L : List Slot) (S : List Value) (k n : Nat) (H : AH) : Option Fm :=
  match ins with
  | .iconst i => some (pc + len, L, .int (Int32.ofInt i) :: S, k, n, H)
  | .bipush i => some (pc + len, L, .int (Int8.ofInt i).toInt32 :: S, k, n, H)
  | .sipush i => some (pc + len, L, .int (Int16.ofInt i).toInt32 :: S, k, n, H)
  | .lconst i => some (pc + len, L, .long (Int64.ofNat i) :: S, k, n, H)
  | .ldc _ => some (pc + len, L, .int (Int32.ofInt aux) :: S, k, n, H)
  | .ldc2_w _ => some (pc + len, L, .long (Int64.ofInt aux) :: S, k, n, H)
  | .iload i => (ldI L i).map fun v => (pc + len, L, v :: S, k, n, H)
  | .iload_n i => (ldI L i.val).map fun v => (pc + len, L, v :: S, k, n, H)
  | .lload i => (ldJ L i).map fun v => (pc + len, L, v :: S, k, n, H)
  | .lload_n i => (ldJ L i.val).map fun v => (pc + len, L, v :: S, k, n, H)
  | .aload i => (ldR L i).map fun v => (pc + len, L, v :: S, k, n, H)
  | .aload_n i => (ldR L i.val).map fun v => (pc + len, L, v :: S, k, n, H)
  | .istore i => match S with | .int x :: S => (stl L i (.int x)).map fun L => (pc + len, L, S, k, n, H) | _ => none
  | .istore_n i => match S with | .int x :: S => (stl L i.val (.int x)).map fun L => (pc + len, L, S, k, n, H) | _ => none
  | .astore i => match S with | .ref x :: S => (stl L i (.ref x)).map fun L => (pc + len, L, S, k, n, H) | _ => none
  | .astore_n i => match S with | .ref x :: S => (stl L i.val (.ref x)).map fun L => (pc + len, L, S, k, n, H) | _ => none
  | .lstore i => match S with | .long x :: S => (stL L i (.long x)).map fun L => (pc + len, L, S, k, n, H) | _ => none
  | .lstore_n i => match S with | .long x :: S => (stL L i.val (.long x)).map fun L => (pc + len, L, S, k, n, H) | _ => none
  | .iinc i c => match L[i]? with | some (.val (.int x)) => some (pc + len, L.set i (.val (.int (x + Int32.ofInt c))), S, k, n, H) | _ => none
  | .iadd | .isub | .imul | .iand | .ior | .ixor | .ishl | .ishr | .iushr => match S with | .int y :: .int x :: S => (opI ins).map fun f => (pc + len, L, .int (f x y) :: S, k, n, H) | _ => none
  | .ladd | .lsub | .lmul | .land | .lor | .lxor => match S with | .long y :: .long x :: S => (opJ ins).map fun f => (pc + len, L, .long (f x y) :: S, k, n, H) | _ => none
  | .lshl | .lshr | .lushr => match S with | .int y :: .long x :: S => (opS ins).map fun f => (pc + len, L, .long (f x y) :: S, k, n, H) | _ => none
  | .idiv => match S with | .int y :: .int x :: S => if y = 0 then none else some (pc + len, L, .int (x / y) :: S, k, n, H) | _ => none
  | .irem => match S with | .int y :: .int x :: S => if y = 0 then none else some (pc + len, L, .int (x % y) :: S, k, n, H) | _ => none
  | .ldiv => match S with | .long y :: .long x :: S => if y = 0 then none else some (pc + len, L, .long (x / y) :: S, k, n, H) | _ => none
  | .lrem => match S with | .long y :: .long x :: S => if y = 0 then none else some (pc + len, L, .long (x % y) :: S, k, n, H) | _ => none
  | .ineg => match S with | .int x :: S => some (pc + len, L, .int (-x) :: S, k, n, H) | _ => none
  | .lneg => match S with | .long x :: S => some (pc + len, L, .long (-x) :: S, k, n, H) | _ => none
  | .i2l => match S with | .int x :: S => some (pc + len, L, .long x.toInt64 :: S, k, n, H) | _ => none
  | .l2i => match S with | .long x :: S => some (pc + len, L, .int x.toInt32 :: S, k, n, H) | _ => none
  | .i2b => match S with | .int x :: S => some (pc + len, L, .int x.toInt8.toInt32 :: S, k, n, H) | _ => none
  | .lcmp => match S with | .long y :: .long x :: S => some (pc + len, L, .int (Jvm.Free.XT.cmpL x y) :: S, k, n, H) | _ => none
  | .dup => match S with | v :: S => if v.category = 1 then some (pc + len, L, v :: v :: S, k, n, H) else none | _ => none
  | .dup2 => match S with
    | .long x :: S => some (pc + len, L, .long x :: .long x :: S, k, n, H)
    | v :: w :: S => if v.category = 1 ∧ w.category = 1 then some (pc + len, L, v :: w :: v :: w :: S, k, n, H) else none
    | _ => none
  | .pop => match S with | v :: S => if v.category = 1 then some (pc + len, L, S, k, n, H) else none | _ => none
  | .goto o => (jmp pc o).map fun q => (q, L, S, k, n, H)
  | .ifCond c o => match S with | .int x :: S => if ifCond.holds c x = true then (jmp pc o).map fun q => (q, L, S, k, n, H) else some (pc + len, L, S, k, n, H) | _ => none
  | .if_icmp c o => match S with | .int y :: .int x :: S => if if_icmp.holds c x y = true then (jmp pc o).map fun q => (q, L, S, k, n, H) else some (pc + len, L, S, k, n, H) | _ => none
  | .tableswitch d lo hi os => match S with
    | .int x :: S => if x.toInt < lo ∨ x.toInt > hi then (jmp pc d).map fun q => (q, L, S, k, n, H) else (os[(x.toInt - lo).toNat]?).bind fun o => (jmp pc o).map fun q => (q, L, S, k, n, H)
    | _ => none
  | .getfield _ => match S with | .ref a :: S => if isO H a = true then some (pc + len, L, fld H a aux.toNat :: S, k, n, H) else none | _ => none
  | .putfield _ => match S with | v :: .ref a :: S => if isOw H a = true ∧ okv (P.2.2.1 aux.toNat) v = true then some (pc + len, L, S, k, n, wr H a aux.toNat v) else none | _ => none
  | .iaload => match S with | .int i :: .ref a :: S => if inA H a .int i = true then some (pc + len, L, elt H a i :: S, k, n, H) else none | _ => none
  | .laload => match S with | .int i :: .ref a :: S => if inA H a .long i = true then some (pc + len, L, elt H a i :: S, k, n, H) else none | _ => none
  | .baload => match S with | .int i :: .ref a :: S => if inA H a .byte i = true ∨ inA H a .boolean i = true then some (pc + len, L, elt H a i :: S, k, n, H) else none | _ => none
  | .iastore => match S with | .int x :: .int i :: .ref a :: S => if inAw H a .int i = true then some (pc + len, L, S, k, n, wr H a i.toNatClampNeg (.int x)) else none | _ => none
  | .lastore => match S with | .long x :: .int i :: .ref a :: S => if inAw H a .long i = true then some (pc + len, L, S, k, n, wr H a i.toNatClampNeg (.long x)) else none | _ => none
  | .bastore => match S with
    | .int x :: .int i :: .ref a :: S => if (inAw H a .byte i = true ∧ okv .byte (.int x) = true) ∨ (inAw H a .boolean i = true ∧ okv .boolean (.int x) = true) then some (pc + len, L, S, k, n, wr H a i.toNatClampNeg (.int x)) else none
    | _ => none
  | .arraylength => match S with | .ref a :: S => if isA H a = true then some (pc + len, L, .int (alen H a).toInt32 :: S, k, n, H) else none | _ => none
  | .newarray t => match S with | .int c :: S => if ¬ c < 0 ∧ c.toNatClampNeg * 8 ≤ 536870912 ∧ k + 1 ≤ (rm P m).cells ∧ n + c.toNatClampNeg ≤ (rm P m).slots then some (pc + len, L, .ref H.1 :: S, k + 1, n + c.toNatClampNeg, mkA (newarray.typeOf t) c.toNatClampNeg H) else none | _ => none
  | .new _ => if 0 ≤ aux ∧ k + 1 ≤ (rm P m).cells ∧ n + aux.toNat ≤ (rm P m).slots then some (pc + len, L, .ref H.1 :: S, k + 1, n + aux.toNat, mkO P H) else none
  | .invokespecial _ => match S with | .ref a :: S => if aux = -1 ∧ 1 ≤ (rm P m).frames ∧ cs S + 12 ≤ (rm P m).locals then some (pc + len, L, S, k, n, H) else none | _ => none
  | _ => none
def run (P : Prog) : Nat → Nat → Nat → List Slot → List Value → Nat → Nat → AH → Option (Option Value × AH)
  | 0, _, _, _, _, _, _, _ => none
  | f + 1, m, pc, L, S, k, n, H =>
    match P.1 m pc with
    | none => none
    | some d =>
      match ret P m d.1 S with
      | some v => some (v, H)
      | none => match cal P m d.1 d.2.2 S k n H with
        | some c => match run P f c.1 0 (ent P c.1 c.2.1) [] 0 0 H with
          | none => none
          | some r => run P f m (pc + d.2.1) L (r.1.toList ++ c.2.2) (k + (rm P c.1).cells) (n + (rm P c.1).slots) r.2
        | none => match stp P m d.1 d.2.1 d.2.2 pc L S k n H with
          | none => none
          | some q => run P f m q.1 q.2.1 q.2.2.1 q.2.2.2.1 q.2.2.2.2.1 q.2.2.2.2.2
end Jvm.JX

namespace Jvm.JX
open Sem ClassFile Op Lib
section
variable {P : Prog}
theorem run_succ (f m pc : Nat) (L : List Slot) (S : List Value) (k n : Nat) (H : AH) : run P (f + 1) m pc L S k n H =
    match P.1 m pc with
    | none => none
    | some d =>
      match ret P m d.1 S with
      | some v => some (v, H)
      | none => match cal P m d.1 d.2.2 S k n H with
        | some c => match run P f c.1 0 (ent P c.1 c.2.1) [] 0 0 H with
          | none => none
          | some r => run P f m (pc + d.2.1) L (r.1.toList ++ c.2.2) (k + (rm P c.1).cells) (n + (rm P c.1).slots) r.2
        | none => match stp P m d.1 d.2.1 d.2.2 pc L S k n H with
          | none => none
          | some q => run P f m q.1 q.2.1 q.2.2.1 q.2.2.2.1 q.2.2.2.2.1 q.2.2.2.2.2 := rfl
theorem run_mono : ∀ (f m pc : Nat) (L : List Slot) (S : List Value) (k n : Nat) (H : AH) (r : Option Value × AH), run P f m pc L S k n H = some r → run P (f + 1) m pc L S k n H = some r := by
  intro f
  induction f with
  | zero => intro m pc L S k n H r h; cases h
  | succ f ih =>
    intro m pc L S k n H r h
    rw [run_succ] at h ⊢
    cases hd : P.1 m pc with
    | none => rw [hd] at h; cases h
    | some d =>
      rw [hd] at h
      simp only at h ⊢
      cases hr : ret P m d.1 S with
      | some v => rw [hr] at h; exact h
      | none =>
        rw [hr] at h
        simp only at h ⊢
        cases hc : cal P m d.1 d.2.2 S k n H with
        | some c =>
          rw [hc] at h
          simp only at h ⊢
          cases hq : run P f c.1 0 (ent P c.1 c.2.1) [] 0 0 H with
          | none => rw [hq] at h; cases h
          | some q =>
            rw [hq] at h
            rw [ih _ _ _ _ _ _ _ _ hq]
            exact ih _ _ _ _ _ _ _ _ h
        | none =>
          rw [hc] at h
          simp only at h ⊢
          cases hs : stp P m d.1 d.2.1 d.2.2 pc L S k n H with
          | none => rw [hs] at h; cases h
          | some q => rw [hs] at h; exact ih _ _ _ _ _ _ _ _ h
theorem run_le {f g : Nat} (hfg : f ≤ g) {m pc : Nat} {L : List Slot} {S : List Value} {k n : Nat} {H : AH} {r : Option Value × AH} (h : run P f m pc L S k n H = some r) : run P g m pc L S k n H = some r := by
  induction hfg with
  | refl => exact h
  | step _ ih => exact run_mono _ _ _ _ _ _ _ _ _ ih
end
def W (P : Prog) (m pc : Nat) (L : List Slot) (S : List Value) (k n : Nat) (H : AH) (Q : Option Value → AH → Prop) : Prop := ∃ f v H', run P f m pc L S k n H = some (v, H') ∧ Q v H'
def Cl (P : Prog) (m : Nat) (a : List Value) (H : AH) (Q : Option Value → AH → Prop) : Prop := W P m 0 (ent P m a) [] 0 0 H Q
section Rules
variable {P : Prog} {m pc : Nat} {L : List Slot} {S : List Value} {k n : Nat} {H : AH} {Q : Option Value → AH → Prop} {ins : Instr} {len : Nat} {aux : Int}
theorem W_r {v : Option Value} (hd : P.1 m pc = some (ins, len, aux)) (hr : ret P m ins S = some v) : W P m pc L S k n H Q ↔ Q v H := by
  constructor
  · rintro ⟨f, v', H', h1, h2⟩
    cases f with
    | zero => cases h1
    | succ f => rw [run_succ, hd] at h1; simp only [hr] at h1; cases h1; exact h2
  · intro h
    refine ⟨1, v, H, ?_, h⟩
    rw [run_succ, hd]; simp only [hr]
theorem W_c {m' : Nat} {a r : List Value} (hd : P.1 m pc = some (ins, len, aux)) (hr : ret P m ins S = none) (hc : cal P m ins aux S k n H = some (m', a, r)) :
    W P m pc L S k n H Q ↔ Cl P m' a H (fun v H' => W P m (pc + len) L (v.toList ++ r) (k + (rm P m').cells) (n + (rm P m').slots) H' Q) := by
  constructor
  · rintro ⟨f, v', H', h1, h2⟩
    cases f with
    | zero => cases h1
    | succ f =>
      rw [run_succ, hd] at h1; simp only [hr, hc] at h1
      cases hq : run P f m' 0 (ent P m' a) [] 0 0 H with
      | none => rw [hq] at h1; cases h1
      | some q => rw [hq] at h1; exact ⟨f, q.1, q.2, hq, f, v', H', h1, h2⟩
  · rintro ⟨f, v, H', h1, g, v', H'', h2, h3⟩
    refine ⟨max f g + 1, v', H'', ?_, h3⟩
    rw [run_succ, hd]; simp only [hr, hc]
    rw [run_le (Nat.le_max_left f g) h1]
    exact run_le (Nat.le_max_right f g) h2
theorem W_q (hd : P.1 m pc = some (ins, len, aux)) (hr : ret P m ins S = none) (hc : cal P m ins aux S k n H = none) :
    W P m pc L S k n H Q ↔ ∃ q, stp P m ins len aux pc L S k n H = some q ∧ W P m q.1 q.2.1 q.2.2.1 q.2.2.2.1 q.2.2.2.2.1 q.2.2.2.2.2 Q := by
  constructor
  · rintro ⟨f, v', H', h1, h2⟩
    cases f with
    | zero => cases h1
    | succ f =>
      rw [run_succ, hd] at h1; simp only [hr, hc] at h1
      cases hq : stp P m ins len aux pc L S k n H with
      | none => rw [hq] at h1; cases h1
      | some q => rw [hq] at h1; exact ⟨q, rfl, f, v', H', h1, h2⟩
  · rintro ⟨q, hq, f, v', H', h1, h2⟩
    refine ⟨f + 1, v', H', ?_, h2⟩
    rw [run_succ, hd]; simp only [hr, hc, hq]; exact h1
theorem W_s {pc' : Nat} {L' : List Slot} {S' : List Value} {k' n' : Nat} {H' : AH} (hd : P.1 m pc = some (ins, len, aux)) (hr : ret P m ins S = none) (hc : cal P m ins aux S k n H = none)
    (hs : stp P m ins len aux pc L S k n H = some (pc', L', S', k', n', H')) : W P m pc L S k n H Q ↔ W P m pc' L' S' k' n' H' Q := by
  rw [W_q hd hr hc, hs]
  exact ⟨fun ⟨q, e, h⟩ => by cases e; exact h, fun h => ⟨_, rfl, h⟩⟩
theorem W_g {G : Prop} [Decidable G] {pc' : Nat} {L' : List Slot} {S' : List Value} {k' n' : Nat} {H' : AH} (hd : P.1 m pc = some (ins, len, aux)) (hr : ret P m ins S = none) (hc : cal P m ins aux S k n H = none)
    (hs : stp P m ins len aux pc L S k n H = if G then some (pc', L', S', k', n', H') else none) : W P m pc L S k n H Q ↔ (G ∧ W P m pc' L' S' k' n' H' Q) := by
  rw [W_q hd hr hc, hs]
  by_cases g : G
  · rw [if_pos g]; exact ⟨fun ⟨q, e, h⟩ => by cases e; exact ⟨g, h⟩, fun h => ⟨_, rfl, h.2⟩⟩
  · rw [if_neg g]; exact ⟨fun ⟨q, e, h⟩ => (by cases e), fun h => absurd h.1 g⟩
theorem W_n {G : Prop} [Decidable G] {pc' : Nat} {L' : List Slot} {S' : List Value} {k' n' : Nat} {H' : AH} (hd : P.1 m pc = some (ins, len, aux)) (hr : ret P m ins S = none) (hc : cal P m ins aux S k n H = none)
    (hs : stp P m ins len aux pc L S k n H = if G then none else some (pc', L', S', k', n', H')) : W P m pc L S k n H Q ↔ (¬ G ∧ W P m pc' L' S' k' n' H' Q) := by
  rw [W_q hd hr hc, hs]
  by_cases g : G
  · rw [if_pos g]; exact ⟨fun ⟨q, e, h⟩ => (by cases e), fun h => absurd g h.1⟩
  · rw [if_neg g]; exact ⟨fun ⟨q, e, h⟩ => by cases e; exact ⟨g, h⟩, fun h => ⟨_, rfl, h.2⟩⟩
theorem W_f {G : Prop} [Decidable G] {q1 q2 : Fm} (hd : P.1 m pc = some (ins, len, aux)) (hr : ret P m ins S = none) (hc : cal P m ins aux S k n H = none)
    (hs : stp P m ins len aux pc L S k n H = if G then some q1 else some q2) : W P m pc L S k n H Q ↔ (if G then W P m q1.1 q1.2.1 q1.2.2.1 q1.2.2.2.1 q1.2.2.2.2.1 q1.2.2.2.2.2 Q else W P m q2.1 q2.2.1 q2.2.2.1 q2.2.2.2.1 q2.2.2.2.2.1 q2.2.2.2.2.2 Q) := by
  rw [W_q hd hr hc, hs]
  by_cases g : G
  · rw [if_pos g, if_pos g]; exact ⟨fun ⟨q, e, h⟩ => by cases e; exact h, fun h => ⟨_, rfl, h⟩⟩
  · rw [if_neg g, if_neg g]; exact ⟨fun ⟨q, e, h⟩ => by cases e; exact h, fun h => ⟨_, rfl, h⟩⟩
section Cmp
variable {x y : Int32} {o : Int} {q : Nat}
theorem W_icmp_eq (hd : P.1 m pc = some (.if_icmp .eq o, len, aux)) (hj : jmp pc o = some q) : W P m pc L (.int y :: .int x :: S) k n H Q ↔ (if x = y then W P m q L S k n H Q else W P m (pc + len) L S k n H Q) :=
  W_f (G := x = y) (q1 := (q, L, S, k, n, H)) (q2 := (pc + len, L, S, k, n, H)) hd rfl rfl (by simp only [stp, hj, if_icmp.holds]; by_cases h : x = y <;> simp [h])
theorem W_icmp_ne (hd : P.1 m pc = some (.if_icmp .ne o, len, aux)) (hj : jmp pc o = some q) : W P m pc L (.int y :: .int x :: S) k n H Q ↔ (if x = y then W P m (pc + len) L S k n H Q else W P m q L S k n H Q) :=
  W_f (G := x = y) (q1 := (pc + len, L, S, k, n, H)) (q2 := (q, L, S, k, n, H)) hd rfl rfl (by simp only [stp, hj, if_icmp.holds]; by_cases h : x = y <;> simp [h])
theorem W_icmp_lt (hd : P.1 m pc = some (.if_icmp .lt o, len, aux)) (hj : jmp pc o = some q) : W P m pc L (.int y :: .int x :: S) k n H Q ↔ (if x < y then W P m q L S k n H Q else W P m (pc + len) L S k n H Q) :=
  W_f (G := x < y) (q1 := (q, L, S, k, n, H)) (q2 := (pc + len, L, S, k, n, H)) hd rfl rfl (by
    by_cases h : x < y
    · simp [stp, hj, Jvm.Free.XT.ii_lt_t h, h]
    · simp [stp, hj, Jvm.Free.XT.ii_lt_f h, h])
theorem W_icmp_ge (hd : P.1 m pc = some (.if_icmp .ge o, len, aux)) (hj : jmp pc o = some q) : W P m pc L (.int y :: .int x :: S) k n H Q ↔ (if x < y then W P m (pc + len) L S k n H Q else W P m q L S k n H Q) :=
  W_f (G := x < y) (q1 := (pc + len, L, S, k, n, H)) (q2 := (q, L, S, k, n, H)) hd rfl rfl (by
    by_cases h : x < y
    · simp [stp, hj, Jvm.Free.XT.ii_ge_f h, h]
    · simp [stp, hj, Jvm.Free.XT.ii_ge_t h, h])
theorem W_icmp_gt (hd : P.1 m pc = some (.if_icmp .gt o, len, aux)) (hj : jmp pc o = some q) : W P m pc L (.int y :: .int x :: S) k n H Q ↔ (if y < x then W P m q L S k n H Q else W P m (pc + len) L S k n H Q) :=
  W_f (G := y < x) (q1 := (q, L, S, k, n, H)) (q2 := (pc + len, L, S, k, n, H)) hd rfl rfl (by
    by_cases h : y < x
    · simp [stp, hj, Jvm.Free.XT.ii_gt_t h, h]
    · simp [stp, hj, Jvm.Free.XT.ii_gt_f h, h])
theorem W_icmp_le (hd : P.1 m pc = some (.if_icmp .le o, len, aux)) (hj : jmp pc o = some q) : W P m pc L (.int y :: .int x :: S) k n H Q ↔ (if y < x then W P m (pc + len) L S k n H Q else W P m q L S k n H Q) :=
  W_f (G := y < x) (q1 := (pc + len, L, S, k, n, H)) (q2 := (q, L, S, k, n, H)) hd rfl rfl (by
    by_cases h : y < x
    · simp [stp, hj, Jvm.Free.XT.ii_le_f h, h]
    · simp [stp, hj, Jvm.Free.XT.ii_le_t h, h])
theorem W_if_eq (hd : P.1 m pc = some (.ifCond .eq o, len, aux)) (hj : jmp pc o = some q) : W P m pc L (.int x :: S) k n H Q ↔ (if x = 0 then W P m q L S k n H Q else W P m (pc + len) L S k n H Q) :=
  W_f (G := x = 0) (q1 := (q, L, S, k, n, H)) (q2 := (pc + len, L, S, k, n, H)) hd rfl rfl (by
    by_cases h : x = 0
    · have e := Jvm.Free.XT.i0_eq_t h; simp only [stp, hj, e, if_pos h, if_true, Option.map_some]
    · simp [stp, hj, Jvm.Free.XT.i0_eq_f h, h])
theorem W_if_ne (hd : P.1 m pc = some (.ifCond .ne o, len, aux)) (hj : jmp pc o = some q) : W P m pc L (.int x :: S) k n H Q ↔ (if x = 0 then W P m (pc + len) L S k n H Q else W P m q L S k n H Q) :=
  W_f (G := x = 0) (q1 := (pc + len, L, S, k, n, H)) (q2 := (q, L, S, k, n, H)) hd rfl rfl (by
    by_cases h : x = 0
    · have e := Jvm.Free.XT.i0_ne_f h; simp only [stp, hj, e, if_pos h, Bool.false_eq_true, if_false]
    · simp [stp, hj, Jvm.Free.XT.i0_ne_t h, h])
theorem W_if_lt (hd : P.1 m pc = some (.ifCond .lt o, len, aux)) (hj : jmp pc o = some q) : W P m pc L (.int x :: S) k n H Q ↔ (if x < 0 then W P m q L S k n H Q else W P m (pc + len) L S k n H Q) :=
  W_f (G := x < 0) (q1 := (q, L, S, k, n, H)) (q2 := (pc + len, L, S, k, n, H)) hd rfl rfl (by
    by_cases h : x < 0
    · simp [stp, hj, Jvm.Free.XT.i0_lt_t h, h]
    · simp [stp, hj, Jvm.Free.XT.i0_lt_f h, h])
theorem W_if_le (hd : P.1 m pc = some (.ifCond .le o, len, aux)) (hj : jmp pc o = some q) : W P m pc L (.int x :: S) k n H Q ↔ (if 0 < x then W P m (pc + len) L S k n H Q else W P m q L S k n H Q) :=
  W_f (G := 0 < x) (q1 := (pc + len, L, S, k, n, H)) (q2 := (q, L, S, k, n, H)) hd rfl rfl (by
    by_cases h : 0 < x
    · simp [stp, hj, Jvm.Free.XT.i0_le_f h, h]
    · simp [stp, hj, Jvm.Free.XT.i0_le_t h, h])
theorem W_goto (hd : P.1 m pc = some (.goto o, len, aux)) (hj : jmp pc o = some q) : W P m pc L S k n H Q ↔ W P m q L S k n H Q := W_s hd rfl rfl (by simp [stp, hj])
end Cmp
section Sto
variable {i : Nat} {o o2 : Slot} {x y : Int32} {v : Value} {l : Int64} {a : Nat}
theorem stl_plain (h : L[i]? = some o) (ho : cat1 o = true) : stl L i v = some (L.set i (.val v)) := by
  unfold stl
  rw [h]
  cases o with
  | unset => rfl
  | second => cases ho
  | val w => simp only [cat1, beq_iff_eq] at ho; simp [ho]
theorem W_ist (hd : P.1 m pc = some (.istore i, len, aux)) (h : L[i]? = some o) (ho : cat1 o = true) : W P m pc L (.int x :: S) k n H Q ↔ W P m (pc + len) (L.set i (.val (.int x))) S k n H Q := W_s hd rfl rfl (by simp [stp, stl_plain h ho])
theorem W_istn {i : Fin 4} (hd : P.1 m pc = some (.istore_n i, len, aux)) (h : L[i.val]? = some o) (ho : cat1 o = true) : W P m pc L (.int x :: S) k n H Q ↔ W P m (pc + len) (L.set i.val (.val (.int x))) S k n H Q := W_s hd rfl rfl (by simp [stp, stl_plain h ho])
theorem W_ast (hd : P.1 m pc = some (.astore i, len, aux)) (h : L[i]? = some o) (ho : cat1 o = true) : W P m pc L (.ref a :: S) k n H Q ↔ W P m (pc + len) (L.set i (.val (.ref a))) S k n H Q := W_s hd rfl rfl (by simp [stp, stl_plain h ho])
theorem cs_nil : cs [] = 0 := by simp [cs]
theorem cs_ref : cs (.ref a :: S) = 1 + cs S := by simp [cs, Value.category]
end Sto
section Heap
variable {a j : Nat} {i x c : Int32} {v : Value} {l : Int64}
theorem W_getf {ix : Nat} (hd : P.1 m pc = some (.getfield ix, len, aux)) : W P m pc L (.ref a :: S) k n H Q ↔ (isO H a = true ∧ W P m (pc + len) L (fld H a aux.toNat :: S) k n H Q) := W_g hd rfl rfl rfl
theorem W_putf {ix : Nat} (hd : P.1 m pc = some (.putfield ix, len, aux)) : W P m pc L (v :: .ref a :: S) k n H Q ↔ ((isOw H a = true ∧ okv (P.2.2.1 aux.toNat) v = true) ∧ W P m (pc + len) L S k n (wr H a aux.toNat v) Q) := W_g hd rfl rfl rfl
theorem W_iaload (hd : P.1 m pc = some (.iaload, len, aux)) : W P m pc L (.int i :: .ref a :: S) k n H Q ↔ (inA H a .int i = true ∧ W P m (pc + len) L (elt H a i :: S) k n H Q) := W_g hd rfl rfl rfl
theorem W_iastore (hd : P.1 m pc = some (.iastore, len, aux)) : W P m pc L (.int x :: .int i :: .ref a :: S) k n H Q ↔ (inAw H a .int i = true ∧ W P m (pc + len) L S k n (wr H a i.toNatClampNeg (.int x)) Q) := W_g hd rfl rfl rfl
theorem W_newarr {t : ArrayType} (hd : P.1 m pc = some (.newarray t, len, aux)) : W P m pc L (.int c :: S) k n H Q ↔ ((¬ c < 0 ∧ c.toNatClampNeg * 8 ≤ 536870912 ∧ k + 1 ≤ (rm P m).cells ∧ n + c.toNatClampNeg ≤ (rm P m).slots) ∧ W P m (pc + len) L (.ref H.1 :: S) (k + 1) (n + c.toNatClampNeg) (mkA (newarray.typeOf t) c.toNatClampNeg H) Q) := W_g hd rfl rfl rfl
theorem W_new {ix : Nat} (hd : P.1 m pc = some (.new ix, len, aux)) : W P m pc L S k n H Q ↔ ((0 ≤ aux ∧ k + 1 ≤ (rm P m).cells ∧ n + aux.toNat ≤ (rm P m).slots) ∧ W P m (pc + len) L (.ref H.1 :: S) (k + 1) (n + aux.toNat) (mkO P H) Q) := W_g hd rfl rfl rfl
theorem W_oinit {ix : Nat} (hd : P.1 m pc = some (.invokespecial ix, len, -1)) : W P m pc L (.ref a :: S) k n H Q ↔ ((1 ≤ (rm P m).frames ∧ cs S + 12 ≤ (rm P m).locals) ∧ W P m (pc + len) L S k n H Q) :=
  W_g (G := 1 ≤ (rm P m).frames ∧ cs S + 12 ≤ (rm P m).locals) hd rfl (by simp [cal, cal1]) (by simp [stp])
theorem W_idiv {y : Int32} (hd : P.1 m pc = some (.idiv, len, aux)) : W P m pc L (.int y :: .int x :: S) k n H Q ↔ (¬ y = 0 ∧ W P m (pc + len) L (.int (x / y) :: S) k n H Q) := W_n hd rfl rfl rfl
end Heap
section Call
variable {m' : Nat} {a r : List Value} {b : Nat}
theorem cal_eq (hk : kindOk ins (kd P m') = true) (hl : a.length = na P m') : cal P m ins (m' : Int) (a.reverse ++ r) k n H = if may P m m' a r k n H = true then some (m', a, r) else none := by
  have e1 : (a.reverse ++ r).take (na P m') = a.reverse := by rw [← hl, ← List.length_reverse (as := a)]; exact List.take_left ..
  have e2 : (a.reverse ++ r).drop (na P m') = r := by rw [← hl, ← List.length_reverse (as := a)]; exact List.drop_left ..
  have key : cal1 P m ins (m' : Int) (a.reverse ++ r) k n H = if may P m m' a r k n H = true then some (m', a, r) else none := by
    unfold cal1
    rw [Int.toNat_natCast, e1, e2, List.reverse_reverse]
    simp [hk]
  cases ins <;> first | exact key | (cases hk)
theorem W_call (hd : P.1 m pc = some (ins, len, (m' : Int))) (hr : ret P m ins S = none) (hk : kindOk ins (kd P m') = true) (hl : a.length = na P m') (hS : S = a.reverse ++ r) (hns : stp P m ins len (m' : Int) pc L S k n H = none) :
    W P m pc L S k n H Q ↔ (may P m m' a r k n H = true ∧ Cl P m' a H (fun v H' => W P m (pc + len) L (v.toList ++ r) (k + (rm P m').cells) (n + (rm P m').slots) H' Q)) := by
  have hc : cal P m ins (m' : Int) S k n H = if may P m m' a r k n H = true then some (m', a, r) else none := by rw [hS]; exact cal_eq hk hl
  by_cases g : may P m m' a r k n H = true
  · rw [if_pos g] at hc
    rw [W_c hd hr hc]; simp [g]
  · rw [if_neg g] at hc
    rw [W_q hd hr hc, hns]
    exact ⟨fun ⟨q, e, h⟩ => (by cases e), fun h => absurd h.1 g⟩
theorem W_inst {ix : Nat} {as : List Value} (hd : P.1 m pc = some (.invokevirtual ix, len, (m' : Int))) (hk : kindOk (.invokevirtual ix) (kd P m') = true) (hl : as.length + 1 = na P m') (hS : S = as.reverse ++ .ref b :: r)
    (h1 : (Sym.laidSlots (.ref b :: as)).length ≤ ml P m') (h2 : (rm P m').frames + 1 ≤ (rm P m).frames) (h3 : (rm P m').cells = 0 ∧ (rm P m').slots = 0) :
    W P m pc L S k n H Q ↔ ((isO H b = true ∧ cs r + (ml P m' + 11) + (rm P m').locals ≤ (rm P m).locals) ∧ Cl P m' (.ref b :: as) H (fun v H' => W P m (pc + len) L (v.toList ++ r) k n H' Q)) := by
  rw [W_call (a := .ref b :: as) (r := r) hd rfl hk hl (by rw [hS]; simp) rfl]
  have e : may P m m' (.ref b :: as) r k n H = true ↔ (isO H b = true ∧ cs r + (ml P m' + 11) + (rm P m').locals ≤ (rm P m).locals) := by
    have hk0 : kd P m' ≠ 0 := by intro h; rw [h] at hk; cases hk
    simp [may, rcv, h1, h2, h3, ← hl, hk0]; exact And.comm
  rw [e, h3.1, h3.2]; rfl
theorem W_init {ix : Nat} {as : List Value} (hd : P.1 m pc = some (.invokespecial ix, len, (m' : Int))) (hk : kindOk (.invokespecial ix) (kd P m') = true) (hl : as.length + 1 = na P m') (hS : S = as.reverse ++ .ref b :: r)
    (h1 : (Sym.laidSlots (.ref b :: as)).length ≤ ml P m') (h2 : (rm P m').frames + 1 ≤ (rm P m).frames) (h3 : ¬ ((rm P m').cells = 0 ∧ (rm P m').slots = 0)) :
    W P m pc L S k n H Q ↔ ((isO H b = true ∧ cs r + (ml P m' + 11) + (rm P m').locals ≤ (rm P m).locals ∧ k + (rm P m').cells ≤ (rm P m).cells ∧ n + (rm P m').slots ≤ (rm P m).slots) ∧ Cl P m' (.ref b :: as) H (fun v H' => W P m (pc + len) L (v.toList ++ r) (k + (rm P m').cells) (n + (rm P m').slots) H' Q)) := by
  have hns : stp P m (.invokespecial ix) len (m' : Int) pc L S k n H = none := by
    dsimp only [stp]
    split
    · rw [if_neg]; omega
    · rfl
  rw [W_call (a := .ref b :: as) (r := r) hd rfl hk hl (by rw [hS]; simp) hns]
  have e : may P m m' (.ref b :: as) r k n H = true ↔ (isO H b = true ∧ cs r + (ml P m' + 11) + (rm P m').locals ≤ (rm P m).locals ∧ k + (rm P m').cells ≤ (rm P m).cells ∧ n + (rm P m').slots ≤ (rm P m).slots) := by
    have hk0 : kd P m' ≠ 0 := by intro h; rw [h] at hk; cases hk
    simp only [may, rcv, h1, h2, h3, ← hl, hk0, List.length_cons, decide_true, decide_false, Bool.true_and, Bool.false_or, Bool.and_eq_true, decide_eq_true_eq]
    constructor
    · rintro ⟨⟨q1, q2⟩, q3⟩; exact ⟨q3, q1, q2⟩
    · rintro ⟨q3, q1, q2⟩; exact ⟨⟨q1, q2⟩, q3⟩
  rw [e]
end Call
section Last
theorem W_rz {x : Int32} (hd : P.1 m pc = some (.ireturn, len, aux)) (hr : rt P m = some .boolean) : W P m pc L (.int x :: S) k n H Q ↔ ((x = 0 ∨ x = 1) ∧ Q (some (.int x)) H) := by
  by_cases g : x = 0 ∨ x = 1
  · rw [W_r hd (by simp only [ret, hr]; rw [if_pos g])]; simp [g]
  · rw [W_q hd (by simp only [ret, hr]; rw [if_neg g]) rfl]
    constructor
    · rintro ⟨q, e, -⟩; cases e
    · intro h; exact absurd h.1 g
theorem W_newarr' {t : ArrayType} {c : Int32} {N : Nat} (hd : P.1 m pc = some (.newarray t, len, aux)) (hN : c.toNatClampNeg = N) (h1 : ¬ c < 0) (h2 : N * 8 ≤ 536870912) :
    W P m pc L (.int c :: S) k n H Q ↔ ((k + 1 ≤ (rm P m).cells ∧ n + N ≤ (rm P m).slots) ∧ W P m (pc + len) L (.ref H.1 :: S) (k + 1) (n + N) (mkA (newarray.typeOf t) N H) Q) := by
  rw [W_newarr hd, hN]; simp [h1, h2]
theorem W_new' {ix : Nat} (hd : P.1 m pc = some (.new ix, len, aux)) (h0 : 0 ≤ aux) : W P m pc L S k n H Q ↔ ((k + 1 ≤ (rm P m).cells ∧ n + aux.toNat ≤ (rm P m).slots) ∧ W P m (pc + len) L (.ref H.1 :: S) (k + 1) (n + aux.toNat) (mkO P H) Q) := by
  rw [W_new hd]; simp [h0]
end Last
end Rules
abbrev LW : Type := (Nat → Nat → Option (Instr × Nat × Int)) × (Nat → MInfo)
abbrev Row : Type := Nat × Instr × Nat × Int
end Jvm.JX

namespace Jvm.JX
open Sem ClassFile Op Lib
abbrev St : Type := (Nat → Int32) × (Nat → Int64) × (Nat → Nat → Int32) × (Nat → Nat → Int64)
abbrev Lay : Type := List (FieldType × Nat) × List (FieldType × Nat)
def sI (s : St) (k : Nat) : Int32 := s.1 k
def sJ (s : St) (k : Nat) : Int64 := s.2.1 k
def sA (s : St) (t i : Nat) : Int32 := s.2.2.1 t i
def sB (s : St) (t i : Nat) : Int64 := s.2.2.2 t i
def uI (s : St) (k : Nat) (v : Int32) : St := (fun j => if j = k then v else s.1 j, s.2.1, s.2.2.1, s.2.2.2)
def uJ (s : St) (k : Nat) (v : Int64) : St := (s.1, fun j => if j = k then v else s.2.1 j, s.2.2.1, s.2.2.2)
def uA (s : St) (t i : Nat) (v : Int32) : St := (s.1, s.2.1, fun t' i' => if t' = t ∧ i' = i then v else s.2.2.1 t' i', s.2.2.2)
def uB (s : St) (t i : Nat) (v : Int64) : St := (s.1, s.2.1, s.2.2.1, fun t' i' => if t' = t ∧ i' = i then v else s.2.2.2 t' i')
def z0 : St := (fun _ => 0, fun _ => 0, fun _ _ => 0, fun _ _ => 0)
section St
variable {s : St} {k j t i t' i' : Nat} {v : Int32} {w : Int64}
theorem sI_uI : sI (uI s k v) j = if j = k then v else sI s j := by simp [sI, sJ, sA, sB, uI, uJ, uA, uB, z0]
theorem sI_uA : sI (uA s t i v) j = sI s j := by simp [sI, sJ, sA, sB, uI, uJ, uA, uB, z0]
theorem sJ_uI : sJ (uI s k v) j = sJ s j := by simp [sI, sJ, sA, sB, uI, uJ, uA, uB, z0]
theorem sJ_uA : sJ (uA s t i v) j = sJ s j := by simp [sI, sJ, sA, sB, uI, uJ, uA, uB, z0]
theorem sA_uI : sA (uI s k v) t' i' = sA s t' i' := by simp [sI, sJ, sA, sB, uI, uJ, uA, uB, z0]
theorem sA_uA : sA (uA s t i v) t' i' = if t' = t ∧ i' = i then v else sA s t' i' := by simp [sI, sJ, sA, sB, uI, uJ, uA, uB, z0]
theorem sB_uI : sB (uI s k v) t' i' = sB s t' i' := by simp [sI, sJ, sA, sB, uI, uJ, uA, uB, z0]
theorem sB_uA : sB (uA s t i v) t' i' = sB s t' i' := by simp [sI, sJ, sA, sB, uI, uJ, uA, uB, z0]
theorem sI_z0 : sI z0 k = 0 := by simp [sI, sJ, sA, sB, uI, uJ, uA, uB, z0]
theorem sA_z0 : sA z0 t i = 0 := by simp [sI, sJ, sA, sB, uI, uJ, uA, uB, z0]
theorem sB_z0 : sB z0 t i = 0 := by simp [sI, sJ, sA, sB, uI, uJ, uA, uB, z0]
theorem St_ext {s s' : St} (h1 : ∀ k, sI s k = sI s' k) (h2 : ∀ k, sJ s k = sJ s' k) (h3 : ∀ t i, sA s t i = sA s' t i) (h4 : ∀ t i, sB s t i = sB s' t i) : s = s' :=
  Prod.ext (funext h1) (Prod.ext (funext h2) (Prod.ext (funext fun t => funext (h3 t)) (funext fun t => funext (h4 t))))
end St
def zr (s : St) (t : Nat) : Prop := (∀ i, sA s t i = 0) ∧ ∀ i, sB s t i = 0
theorem zr_z0 {t : Nat} : zr z0 t = True := by simp [zr, sA_z0, sB_z0]
def fvl (y : Lay) (j p : Nat) (s : St) (k : Nat) : Value := match y.1[k]? with
  | some (.long, _) => .long (sJ s k)
  | some (.array _, t) => if t ≤ j then .ref (p + t) else .null
  | _ => .int (sI s k)
def blk (y : Lay) (j p : Nat) (s : St) : Nat → Cel
  | 0 => (.object "", y.1.length, true, fvl y j p s)
  | t + 1 => match y.2[t]? with
    | some (.long, n) => (.array .long, n, true, fun i => .long (sB s (t + 1) i))
    | some (ty, n) => (.array ty, n, true, fun i => .int (sA s (t + 1) i))
    | none => (.char, 0, false, fun _ => .null)
def put (y : Lay) (j : Nat) (H : AH) (p : Nat) (s : St) : AH := (H.1, fun a => if p ≤ a ∧ a ≤ p + j then blk y j p s (a - p) else H.2 a)
section Put
variable {y : Lay} {j : Nat} {H : AH} {p : Nat} {s : St} {k t n : Nat} {ty : FieldType} {i : Int32}
theorem put_0 : (put y j H p s).2 p = (.object "", y.1.length, true, fvl y j p s) := by simp [put, blk]
theorem put_t (ht : t ≤ j) : (put y j H p s).2 (p + t) = blk y j p s t := by simp [put, ht]
theorem isO_put : isO (put y j H p s) p = true := by simp [isO, put_0]
theorem isOw_put : isOw (put y j H p s) p = true := by simp [isOw, isO_put, put_0]
theorem fld_I (h : y.1[k]? = some (ty, t)) (hl : ty ≠ .long) (ha : ∀ e, ty ≠ .array e) : fld (put y j H p s) p k = .int (sI s k) := by
  simp only [fld, put_0, fvl, h]; cases ty <;> first | rfl | exact absurd rfl hl | exact absurd rfl (ha _)
theorem fld_R (h : y.1[k]? = some (.array ty, t)) (ht : t ≤ j) : fld (put y j H p s) p k = .ref (p + t) := by simp only [fld, put_0, fvl, h, ht, if_true]
theorem blk_I (h : y.2[t]? = some (ty, n)) (hl : ty ≠ .long) : blk y j p s (t + 1) = (.array ty, n, true, fun i => .int (sA s (t + 1) i)) := by
  simp only [blk, h]
theorem clamp_lt {i : Int32} {n : Nat} : (¬ i < 0 ∧ i.toNatClampNeg < n) ↔ (0 ≤ i.toInt ∧ i.toInt < n) := by
  simp only [Int32.lt_iff_toInt_lt, Int32.toNatClampNeg, Int32.reduceToInt]; omega
theorem inA_I (h : y.2[t]? = some (ty, n)) (hl : ty ≠ .long) (ht : t + 1 ≤ j) : inA (put y j H p s) (p + (t + 1)) ty i = true ↔ (0 ≤ i.toInt ∧ i.toInt < n) := by
  rw [← clamp_lt]; simp [inA, put_t ht, blk_I h hl]
theorem inAw_I (h : y.2[t]? = some (ty, n)) (hl : ty ≠ .long) (ht : t + 1 ≤ j) : inAw (put y j H p s) (p + (t + 1)) ty i = true ↔ (0 ≤ i.toInt ∧ i.toInt < n) := by
  rw [← inA_I (H := H) (p := p) (s := s) h hl ht]; simp [inAw, put_t ht, blk_I h hl]
theorem elt_I (h : y.2[t]? = some (ty, n)) (hl : ty ≠ .long) (ht : t + 1 ≤ j) : elt (put y j H p s) (p + (t + 1)) i = .int (sA s (t + 1) i.toNatClampNeg) := by
  simp only [elt, put_t ht, blk_I h hl]
theorem put_wr {s' : St} {t q : Nat} {v : Value} (ht : t ≤ j) (hb : ∀ t', blk y j p s' t' = if t' = t then ((blk y j p s t).1, (blk y j p s t).2.1, (blk y j p s t).2.2.1, fun i => if i = q then v else (blk y j p s t).2.2.2 i) else blk y j p s t') :
    wr (put y j H p s) (p + t) q v = put y j H p s' := by
  refine Prod.ext rfl (funext fun a => ?_)
  simp only [wr, put_t ht]
  by_cases e : a = p + t
  · subst e; simp [put, ht, hb]
  · simp only [e, if_false, put]
    by_cases g : p ≤ a ∧ a ≤ p + j
    · have : a - p ≠ t := by omega
      simp [g, hb, this]
    · simp [g]
theorem fvl_uI {v : Int32} (h : y.1[k]? = some (ty, t)) (hl : ty ≠ .long) (ha : ∀ e, ty ≠ .array e) (i : Nat) : fvl y j p (uI s k v) i = if i = k then .int v else fvl y j p s i := by
  by_cases e : i = k
  · subst e; simp only [fvl, h, if_true]; cases ty <;> first | (simp [sI_uI]; done) | exact absurd rfl hl | exact absurd rfl (ha _)
  · simp only [fvl, e, if_false, sI_uI, sJ_uI]
theorem wr_I {v : Int32} (h : y.1[k]? = some (ty, t)) (hl : ty ≠ .long) (ha : ∀ e, ty ≠ .array e) : wr (put y j H p s) p k (.int v) = put y j H p (uI s k v) := by
  refine put_wr (t := 0) (Nat.zero_le _) fun t' => ?_
  cases t' with
  | zero => simp only [blk, if_true]; exact congrArg (fun f => (_, _, _, f)) (funext fun i => fvl_uI h hl ha i)
  | succ t' => simp [blk, sA_uI, sB_uI]
theorem wr_A {v : Int32} {q : Nat} (h : y.2[t]? = some (ty, n)) (hl : ty ≠ .long) (ht : t + 1 ≤ j) : wr (put y j H p s) (p + (t + 1)) q (.int v) = put y j H p (uA s (t + 1) q v) := by
  refine put_wr ht fun t' => ?_
  by_cases e : t' = t + 1
  · subst e
    simp only [blk_I h hl, if_true, sA_uA, true_and]
    exact congrArg (fun f => (_, _, _, f)) (funext fun i => by split <;> rfl)
  · simp only [e, if_false]
    cases t' with
    | zero => rfl
    | succ t' => have : ¬ t' = t := fun q => e (by rw [q]); simp [blk, sA_uA, sB_uA, this]
theorem mkO_put {P : Prog} (hn : P.2.2.2 = y.1.length) (hf : ∀ k, defaultValue (P.2.2.1 k) = fvl y 0 H.1 z0 k) : mkO P H = put y 0 (H.1 + 1, H.2) H.1 z0 := by
  refine Prod.ext rfl (funext fun a => ?_)
  by_cases e : a = H.1
  · subst e; simp only [mkO, if_true, put_0, hn]; exact congrArg (fun f => (_, _, _, f)) (funext fun k => hf k)
  · have : ¬ (H.1 ≤ a ∧ a ≤ H.1 + 0) := by omega
    simp only [mkO, put, e, if_false, if_neg this]
theorem mkA_put {h : Nat → Cel} (h1 : y.1[k]? = some (.array ty, j + 1)) (h2 : y.2[j]? = some (ty, n)) (hu : (List.range y.1.length).all (fun k' => decide (k' = k) || ((y.1.getD k' (.int, 0)).2 != j + 1)) = true) (hz : ∀ i, sA s (j + 1) i = 0) (hz' : ∀ i, sB s (j + 1) i = 0) (hty : ty = .int ∨ ty = .long ∨ ty = .byte ∨ ty = .boolean) :
    wr (mkA ty n (put y j (p + (j + 1), h) p s)) p k (.ref (p + (j + 1))) = put y (j + 1) (p + (j + 1) + 1, h) p s := by
  refine Prod.ext rfl (funext fun a => ?_)
  have hp : ¬ p = p + (j + 1) := by omega
  have hN : (put y j (p + (j + 1), h) p s).1 = p + (j + 1) := rfl
  by_cases e : a = p
  · subst e
    simp only [wr, mkA, hN, if_true, hp, if_false, put_0]
    refine congrArg (fun f => (_, _, _, f)) (funext fun i => ?_)
    by_cases e2 : i = k
    · subst e2; simp [fvl, h1]
    · simp only [e2, if_false, fvl]
      cases hq : y.1[i]? with
      | none => rfl
      | some x =>
        obtain ⟨x1, x2⟩ := x
        cases x1 <;> try rfl
        rename_i el
        have : x2 ≠ j + 1 := fun q => by
          have hlt : i < y.1.length := (List.getElem?_eq_some_iff.mp hq).1
          have u := List.all_eq_true.mp hu i (List.mem_range.mpr hlt)
          simp [e2, hq, q] at u
        have : (x2 ≤ j + 1) = (x2 ≤ j) := propext ⟨fun _ => by omega, fun _ => by omega⟩
        simp [this]
  · simp only [wr, mkA, hN, e, if_false]
    by_cases e2 : a = p + (j + 1)
    · subst e2
      simp only [if_true, put_t (Nat.le_refl (j + 1))]
      rcases hty with rfl | rfl | rfl | rfl
      · simp only [blk, h2, hz]; rfl
      · simp only [blk, h2, hz']; rfl
      · simp only [blk, h2, hz]; rfl
      · simp only [blk, h2, hz]; rfl
    · simp only [e2, if_false, put]
      by_cases g : p ≤ a ∧ a ≤ p + j
      · have g2 : p ≤ a ∧ a ≤ p + (j + 1) := by omega
        simp only [g, g2, and_self, if_true]
        obtain ⟨t, ht⟩ : ∃ t, a - p = t + 1 := ⟨a - p - 1, by omega⟩
        rw [ht]; rfl
      · have g2 : ¬ (p ≤ a ∧ a ≤ p + (j + 1)) := by omega
        simp only [g, g2, if_false]
theorem isOw_mk {h : Nat → Cel} {c : Nat} : isOw (mkA ty n (put y j (p + (c + 1), h) p s)) p = true := by
  have : ¬ p = p + (c + 1) := by omega
  have hN : (put y j (p + (c + 1), h) p s).1 = p + (c + 1) := rfl
  simp [isOw, isO, mkA, hN, this, put_0]
theorem put_fst : (put y j H p s).1 = H.1 := by simp [put]
theorem cl_unf {P : Prog} {m : Nat} {a : List Value} {L : List Slot} {Q : Option Value → AH → Prop} (h : ent P m a = L) : Cl P m a H Q ↔ W P m 0 L [] 0 0 H Q := by unfold Cl; rw [h]
end Put
def noc : Cel := (.char, 0, false, fun _ => .null)
def H0 (n : Nat) : AH := (n, fun _ => noc)
def H1 (n a len : Nat) (f : Nat → Int32) : AH := (n, fun b => if b = a then (.array .int, len, false, fun i => .int (f i)) else noc)
def cl (lo hi v : Int32) : Int32 := if v < lo then lo else if hi < v then hi else v
section Okv
variable {x : Int32} {l : Int64} {a : Nat} {t : FieldType}
theorem okv_int : (okv .int (.int x) = true) = True := by simp [okv]
theorem okv_ref : (okv (.array t) (.ref a) = true) = True := by simp [okv]
end Okv
end Jvm.JX

namespace Jvm.JX
open Sem ClassFile Op Lib
section Num
theorem ia {x y : Int32} (h1 : -2147483648 ≤ x.toInt + y.toInt) (h2 : x.toInt + y.toInt ≤ 2147483647) : (x + y).toInt = x.toInt + y.toInt := by
  rw [Int32.toInt_add]; exact Int.bmod_eq_of_le (by omega) (by omega)
theorem isb {x y : Int32} (h1 : -2147483648 ≤ x.toInt - y.toInt) (h2 : x.toInt - y.toInt ≤ 2147483647) : (x - y).toInt = x.toInt - y.toInt := by
  rw [Int32.toInt_sub]; exact Int.bmod_eq_of_le (by omega) (by omega)
theorem im {x y : Int32} (h1 : -2147483648 ≤ x.toInt * y.toInt) (h2 : x.toInt * y.toInt ≤ 2147483647) : (x * y).toInt = x.toInt * y.toInt := by
  rw [Int32.toInt_mul]; exact Int.bmod_eq_of_le (by omega) (by omega)
theorem lt32 {x y : Int32} : x < y ↔ x.toInt < y.toInt := Int32.lt_iff_toInt_lt
theorem eq32 {x y : Int32} : x = y ↔ x.toInt = y.toInt := Int32.toInt_inj.symm
theorem cln {i : Int32} : i.toNatClampNeg = i.toInt.toNat := rfl
theorem cl_rg {lo hi : Int32} (v : Int32) (h : lo.toInt ≤ hi.toInt) : lo.toInt ≤ (cl lo hi v).toInt ∧ (cl lo hi v).toInt ≤ hi.toInt := by
  unfold cl
  by_cases h1 : v < lo
  · rw [if_pos h1]; omega
  · rw [if_neg h1]
    by_cases h2 : hi < v
    · rw [if_pos h2]; omega
    · rw [if_neg h2]; rw [lt32] at h1 h2; omega
end Num
section Fill
def fA (s : St) (t lo hi : Nat) (v : Int32) : St := (s.1, s.2.1, fun t' i => if t' = t ∧ lo ≤ i ∧ i < hi then v else s.2.2.1 t' i, s.2.2.2)
variable {s : St} {t lo hi k i t' : Nat} {v : Int32}
theorem sI_fA : sI (fA s t lo hi v) k = sI s k := by simp [sI, fA]
theorem sJ_fA : sJ (fA s t lo hi v) k = sJ s k := by simp [sJ, fA]
theorem sA_fA : sA (fA s t lo hi v) t' i = if t' = t ∧ lo ≤ i ∧ i < hi then v else sA s t' i := by simp [sA, fA]
theorem sB_fA : sB (fA s t lo hi v) t' i = sB s t' i := by simp [sB, fA]
theorem fA_nil (h : hi ≤ lo) : fA s t lo hi v = s := by
  refine St_ext (fun k => sI_fA) (fun k => sJ_fA) (fun t' i => ?_) (fun t' i => sB_fA)
  rw [sA_fA, if_neg (by omega)]
theorem fA_step (h : lo < hi) : fA (uA s t lo v) t (lo + 1) hi v = fA s t lo hi v := by
  refine St_ext (fun k => by simp only [sI_fA, sI_uA]) (fun k => by simp only [sJ_fA, sJ_uA]) (fun t' i => ?_) (fun t' i => by simp only [sB_fA, sB_uA])
  simp only [sA_fA, sA_uA]
  by_cases h1 : t' = t ∧ lo + 1 ≤ i ∧ i < hi
  · rw [if_pos h1, if_pos (by omega)]
  · rw [if_neg h1]
    by_cases h2 : t' = t ∧ i = lo
    · rw [if_pos h2, if_pos (by omega)]
    · rw [if_neg h2, if_neg (by omega)]
end Fill
section Cnt
def cnt (f : Nat → Bool) : Nat → Nat → Nat
  | _, 0 => 0
  | j, k + 1 => (if f j = true then 1 else 0) + cnt f (j + 1) k
theorem cnt_le {f : Nat → Bool} : ∀ (k j : Nat), cnt f j k ≤ k
  | 0, _ => Nat.le_refl _
  | k + 1, j => by have := cnt_le (f := f) k (j + 1); simp only [cnt]; split <;> omega
theorem cnt_congr {f g : Nat → Bool} : ∀ (k j : Nat), (∀ i, j ≤ i → i < j + k → f i = g i) → cnt f j k = cnt g j k
  | 0, _, _ => rfl
  | k + 1, j, h => by simp only [cnt]; rw [h j (Nat.le_refl _) (by omega), cnt_congr k (j + 1) fun i a b => h i (by omega) (by omega)]
theorem ofNat_one_add (c : Int32) (x : Nat) : c + 1 + Int32.ofNat x = c + Int32.ofNat (1 + x) := by
  rw [Int32.ofNat_add, Int32.add_assoc]; rfl
theorem add_ofNat_zero (c : Int32) : c + Int32.ofNat 0 = c := Int32.add_zero c
end Cnt
section Ite
variable {P : Prog} {m pc : Nat} {L : List Slot} {S : List Value} {k n : Nat} {H : AH} {Q : Option Value → AH → Prop} {c : Prop} [Decidable c]
end Ite
end Jvm.JX

namespace Jvm.JX
open Sem ClassFile Op Lib
section Forget
variable {P : Prog} {m pc len k n i : Nat} {aux : Int} {ins : Instr} {L L' M : List Slot} {S : List Value} {H : AH} {v : Value} {Q : Option Value → AH → Prop}
end Forget
section ForgetL
variable {P : Prog} {m pc len k n i j : Nat} {aux : Int} {ins : Instr} {L M N : List Slot} {S : List Value} {H : AH} {v : Value} {a : Slot} {Q : Option Value → AH → Prop}
end ForgetL
section Ist
variable {P : Prog} {m pc len k n i : Nat} {aux : Int} {L : List Slot} {S : List Value} {H : AH} {Q : Option Value → AH → Prop} {x : Int32} {l : Int64}
end Ist
section Num2
end Num2
end Jvm.JX

namespace Jvm.JX
open Sem ClassFile Op Lib
end Jvm.JX

namespace Jvm.JX
open Sem ClassFile Op Lib Jvm.Stand Jvm.Free Jvm.LawKit Jvm.RoadKit
def CRel (C : String) (fn : Nat → String × String) (F : List Nat) (Z : State) (n0 : Nat) (h : Heap) (a : Nat) (c : Cel) : Prop :=
  (c.2.2.1 = true → n0 ≤ a) ∧
  match c.1 with
  | .object _ => Exa Z h a C ∧ ∀ k ∈ F, Fld Z h a C (fn k).1 (fn k).2 (c.2.2.2 k)
  | .array t => c.2.1 < 2 ^ 31 ∧ ∃ cl : Cell, Arr Z h a cl t ∧ cl.slots.size = c.2.1 ∧ ∀ i, i < c.2.1 → cl.slots[i]? = some (c.2.2.2 i)
  | _ => True
def RelH (C : String) (fn : Nat → String × String) (F : List Nat) (Z : State) (n0 : Nat) (h : Heap) (H : AH) : Prop := h.size = H.1 ∧ n0 ≤ H.1 ∧ ∀ a, CRel C fn F Z n0 h a (H.2 a)
def ilen2 : Instr → Nat → Nat
  | .tableswitch _ _ _ _, l => l
  | i, _ => ilen i
def RowOk (P : Prog) (tb : List Jvm.Cond) (C : String) (fn : Nat → String × String) (F : List Nat) (nsl : Nat) (nm : Nat → MethodName) (R : List Nat) (m : Nat) (ins : Instr) (aux : Int) : Prop :=
  match ins with
  | .getfield i => aux.toNat ∈ F ∧ Jvm.Cond.fieldLink (nm m).cls i C (fn aux.toNat).1 (fn aux.toNat).2 ∈ tb
  | .putfield i => aux.toNat ∈ F ∧ Jvm.Cond.fieldLink (nm m).cls i C (fn aux.toNat).1 (fn aux.toNat).2 ∈ tb ∧ (Jvm.Cond.lays C C (fn aux.toNat).1 (fn aux.toNat).2 ∈ tb ∨ (nm m).cls = C ∧ (nm m).name = "<init>")
  | .new i => aux.toNat = nsl ∧ Jvm.Cond.classLink (nm m).cls i C ∈ tb
  | .newarray t => Jvm.Cond.arrayClass (newarray.typeOf t) ∈ tb
  | .ldc i => Jvm.Cond.constant (nm m).cls i (Int32.ofInt aux) ∈ tb
  | .ldc2_w i => Jvm.Cond.constantLong (nm m).cls i (Int64.ofInt aux) ∈ tb
  | .invokevirtual i => aux.toNat ∈ R ∧ Jvm.Cond.methodLink (nm m).cls i (nm aux.toNat) ∈ tb
  | .invokestatic i => aux.toNat ∈ R ∧ Jvm.Cond.methodLink (nm m).cls i (nm aux.toNat) ∈ tb
  | .invokespecial i => (aux = -1 → Jvm.Cond.methodLink (nm m).cls i Lib.objectInit ∈ tb ∧ Jvm.Cond.instanceMethod Lib.objectInit ∈ tb ∧ Jvm.Cond.code Lib.objectInit ⟨#[0xb1]⟩ 1 none ∈ tb) ∧ (0 ≤ aux → aux.toNat ∈ R ∧ Jvm.Cond.methodLink (nm m).cls i (nm aux.toNat) ∈ tb)
  | _ => True
def CalOk (P : Prog) (tb : List Jvm.Cond) (C : String) (nm : Nat → MethodName) (bt : Nat → ByteArray) (m : Nat) : Prop :=
  Jvm.Cond.code (nm m) (bt m) (ml P m) (rt P m) ∈ tb ∧ Jvm.Cond.initialized (nm m).cls ∈ tb ∧ (∃ ps r, parseMethodDescriptor (nm m).desc = some ⟨ps, r⟩ ∧ ps.length + (if kd P m = 0 then 0 else 1) = na P m) ∧
  (kd P m = 0 → Jvm.Cond.static (nm m) ∈ tb) ∧
  (kd P m ≠ 0 → (nm m).cls = C ∧ Jvm.Cond.instanceMethod (nm m) ∈ tb) ∧
  (kd P m = 1 → Jvm.Cond.declares (nm m) ∈ tb ∧ Jvm.Cond.selects C (nm m) (nm m) ∈ tb) ∧
  (kd P m = 2 → Jvm.Cond.privateMethod (nm m) ∈ tb) ∧
  (kd P m = 3 → (nm m).name = "<init>" ∧ rt P m = none)
def Good (P : Prog) (tb : List Jvm.Cond) (C : String) (fn : Nat → String × String) (F : List Nat) (nsl : Nat) (nm : Nat → MethodName) (bt : Nat → ByteArray) (R : List Nat) (top : Nat) : Prop :=
  Jvm.Cond.instantiable C nsl ∈ tb ∧ Jvm.Cond.initialized C ∈ tb ∧
  (∀ k ∈ F, parseFieldDescriptor (fn k).2 = some (P.2.2.1 k) ∧ (Jvm.Cond.lays C C (fn k).1 (fn k).2 ∈ tb ∨ Jvm.Cond.laysFinal C C (fn k).1 (fn k).2 ∈ tb)) ∧
  (∀ j ∈ F, ∀ k ∈ F, (fn j).1 = (fn k).1 → j = k) ∧
  (∀ m ∈ R, plainName (nm m).cls = true ∧ ((nm m).cls ≠ "java/lang/invoke/MethodHandle" ∧ (nm m).cls ≠ "java/lang/invoke/VarHandle") ∧
    ∀ pc ins len aux, P.1 m pc = some (ins, len, aux) → decode (bt m) pc = .ok (ins, len) ∧ len = ilen2 ins len ∧ RowOk P tb C fn F nsl nm R m ins aux) ∧
  (∀ m ∈ R, m ≠ top → CalOk P tb C nm bt m) ∧
  (∀ m ∈ R, ∀ pc ins len aux, P.1 m pc = some (ins, len, aux) → aux = (top : Int) → kindOk ins (kd P top) = false)
section Rel
variable {C : String} {fn : Nat → String × String} {F : List Nat} {Z : State} {n0 : Nat} {h h' : Heap} {H : AH}
theorem RelH.obj (r : RelH C fn F Z n0 h H) {a : Nat} (ha : isO H a = true) : Exa Z h a C ∧ ∀ k ∈ F, Fld Z h a C (fn k).1 (fn k).2 (fld H a k) := by
  have q := (r.2.2 a).2
  unfold isO at ha
  cases hk : (H.2 a).1 <;> rw [hk] at ha <;> first | (cases ha; done) | (simp only [hk] at q; exact q)
theorem RelH.own (r : RelH C fn F Z n0 h H) {a : Nat} (ha : (H.2 a).2.2.1 = true) : n0 ≤ a := (r.2.2 a).1 ha
theorem RelH.arr (r : RelH C fn F Z n0 h H) {a : Nat} {t : FieldType} (ha : (H.2 a).1 = .array t) : (H.2 a).2.1 < 2 ^ 31 ∧ ∃ cl : Cell, Arr Z h a cl t ∧ cl.slots.size = (H.2 a).2.1 ∧ ∀ i, i < (H.2 a).2.1 → cl.slots[i]? = some ((H.2 a).2.2.2 i) := by
  have q := (r.2.2 a).2
  simp only [ha] at q; exact q
theorem RelH.ext (r : RelH C fn F Z n0 h H) (E : Ext h h') {c : Cel} (hs : h'.size = h.size + 1) (hc : CRel C fn F Z n0 h' h.size c) : RelH C fn F Z n0 h' (H.1 + 1, fun b => if b = H.1 then c else H.2 b) := by
  refine ⟨by rw [hs, r.1], Nat.le_succ_of_le r.2.1, fun a => ?_⟩
  by_cases e : a = H.1
  · subst e; simp only [if_true]; rw [← r.1]; exact hc
  · simp only [e, if_false]
    obtain ⟨q1, q2⟩ := r.2.2 a
    refine ⟨q1, ?_⟩
    cases hk : (H.2 a).1 <;> simp only [hk] at q2 ⊢
    · exact ⟨q2.1.ext E, fun k hk => (q2.2 k hk).ext E⟩
    · obtain ⟨q3, cl, q4, q5⟩ := q2; exact ⟨q3, cl, q4.ext E, q5⟩
end Rel
def Go (C : String) (fn : Nat → String × String) (F : List Nat) (Z : State) (n0 : Nat) (p : Program) (l : Launch) (e : Env) (R : Jvm.Room) (s : State) (mid : MethodId) (args : Array Value) (below : List Frame) (meth : Method) (c : Code) (start : State) (nl : Nat) (q : Fm) : Prop :=
  ∃ T' locs', Stand p l e R s mid args below meth c T' locs' q.2.2.2.1 q.2.2.2.2.1 ∧ RelH C fn F Z n0 T'.heap q.2.2.2.2.2 ∧ Fr n0 locs' ∧ q.2.2.2.1 ≤ R.cells ∧ q.2.2.2.2.1 ≤ R.slots ∧ q.2.1.length = nl ∧
    ∀ target, Steps p.tables e below (T'.setTop (mkF mid q.1 q.2.1.toArray q.2.2.1)) target → Steps p.tables e below start target
theorem lrem_mod (x y : Int64) : x - (x / y) * y = x % y := by
  apply Int64.toInt_inj.mp
  have h1 := Int64.le_toInt (x % y)
  have h2 := Int64.toInt_lt (x % y)
  rw [Int64.toInt_sub, Int64.toInt_mul, Int64.toInt_div, Int.bmod_mul_bmod, Int.sub_bmod_bmod, Int.mul_comm (x.toInt.tdiv y.toInt), ← Int.tmod_def, ← Int64.toInt_mod]
  exact Int.bmod_eq_of_le_mul_two (by omega) (by omega)
theorem arr_get {L : List Slot} {i : Nat} {o : Slot} (h : L[i]? = some o) : L.toArray[i]? = some o := by simpa using h
theorem stl_ok {L L' : List Slot} {i : Nat} {v : Value} (hv : v.category = 1) (h : stl L i v = some L') : storeLocals L.toArray i v = some L'.toArray ∧ L'.length = L.length := by
  unfold stl at h
  unfold storeLocals
  cases hi : L[i]? with
  | none => rw [hi] at h; cases h
  | some o =>
    have hlt : i < L.length := (List.getElem?_eq_some_iff.mp hi).1
    rw [hi] at h
    rw [arr_get hi]
    cases o with
    | unset => cases h; simp [storeSelf, setAt, hlt, hv]
    | second =>
      simp only at h
      split at h
      · cases h; simp [storeSelf, setAt, hv, hlt, Nat.lt_of_le_of_lt (Nat.sub_le i 1) hlt]
      · cases h
    | val w =>
      simp only at h
      split at h
      · rename_i hw; cases h; simp [storeSelf, setAt, hv, hlt, hw]
      · rename_i hw
        split at h
        · rename_i h1
          have hw2 : w.category = 2 := by cases w <;> simp [Value.category] at hw ⊢
          cases h; simp [storeSelf, setAt, hv, hlt, hw2, h1]
        · cases h
theorem stL_ok {L L' : List Slot} {i : Nat} {v : Value} (hv : v.category = 2) (h : stL L i v = some L') : storeLocals L.toArray i v = some L'.toArray ∧ L'.length = L.length := by
  unfold stL at h
  unfold storeLocals
  cases hi : L[i]? with
  | none => rw [hi] at h; cases h
  | some o =>
    cases hi2 : L[i + 1]? with
    | none => rw [hi, hi2] at h; cases o <;> cases h
    | some o2 =>
      have hlt : i < L.length := (List.getElem?_eq_some_iff.mp hi).1
      have hlt2 : i + 1 < L.length := (List.getElem?_eq_some_iff.mp hi2).1
      rw [hi, hi2] at h
      rw [arr_get hi]
      have g2 : (L.set i (.val v))[i + 1]? = some o2 := by rw [List.getElem?_set_ne (by omega)]; exact hi2
      have g4 : L[i + 1] = o2 := (List.getElem?_eq_some_iff.mp hi2).2
      cases o with
      | second =>
        simp only at h
        have h0 : i - 1 < L.length := by omega
        split at h
        · rename_i h1
          have g2' : ((L.set (i - 1) .unset).set i (.val v))[i + 1]? = some o2 := by rw [List.getElem?_set_ne (by omega), List.getElem?_set_ne (by omega)]; exact hi2
          have g4' : ((L.set (i - 1) .unset).set i (.val v))[i + 1]'(by simpa using hlt2) = o2 := (List.getElem?_eq_some_iff.mp g2').2
          split at h
          · rename_i hc
            cases h
            cases o2 with
            | second => cases hc
            | unset => simp [storeSelf, setAt, hv, hlt, hlt2, h0, g4']
            | val w => simp only [cat1, beq_iff_eq] at hc; simp [storeSelf, setAt, hv, hlt, hlt2, h0, g4', hc]
          · split at h
            · rename_i hc
              cases h
              obtain ⟨hc, hlt3⟩ := hc
              cases o2 with
              | second => cases hc
              | unset => cases hc
              | val w => simp only [lng, beq_iff_eq] at hc; simp [storeSelf, setAt, hv, hlt, hlt2, hlt3, h0, g4', hc]
            · cases h
        · cases h
      | unset =>
        simp only at h
        split at h
        · rename_i hc
          cases h
          cases o2 with
          | second => cases hc
          | unset => simp [storeSelf, setAt, hv, hlt, hlt2, g2, g4]
          | val w => simp only [cat1, beq_iff_eq] at hc; simp [storeSelf, setAt, hv, hlt, hlt2, g2, g4, hc]
        · split at h
          · rename_i hc
            cases h
            obtain ⟨hc, hlt3⟩ := hc
            cases o2 with
            | second => cases hc
            | unset => cases hc
            | val w => simp only [lng, beq_iff_eq] at hc; simp [storeSelf, setAt, hv, hlt, hlt2, hlt3, g2, g4, hc]
          · cases h
      | val w =>
        simp only at h
        split at h
        · rename_i hw
          cases h
          have g3 : ((L.set (i + 1) .unset).set i (.val v))[i + 1]? = some .unset := by rw [List.getElem?_set_ne (by omega)]; simp [hlt2]
          simp [storeSelf, setAt, hv, hlt, hlt2, hw, g3]
          rw [List.set_comm _ _ (by omega), List.set_set, List.set_comm _ _ (by omega)]
        · rename_i hw
          have hw1 : ¬ w.category = 2 := hw
          split at h
          · rename_i hc
            cases h
            cases o2 with
            | second => cases hc
            | unset => simp [storeSelf, setAt, hv, hlt, hlt2, g2, g4, hw1]
            | val w => simp only [cat1, beq_iff_eq] at hc; simp [storeSelf, setAt, hv, hlt, hlt2, g2, g4, hw1, hc]
          · split at h
            · rename_i hc
              cases h
              obtain ⟨hc, hlt3⟩ := hc
              cases o2 with
              | second => cases hc
              | unset => cases hc
              | val w2 => simp only [lng, beq_iff_eq] at hc; simp [storeSelf, setAt, hv, hlt, hlt2, hlt3, g2, g4, hw1, hc]
            · cases h
theorem jmp_ok {pc q : Nat} {o : Int} (h : jmp pc o = some q) : 0 ≤ (pc : Int) + o ∧ ((pc : Int) + o).toNat = q := by
  unfold jmp at h
  split at h
  · rename_i g; cases h; exact ⟨g, rfl⟩
  · cases h
theorem ldI_ok {L : List Slot} {i : Nat} {v : Value} (h : ldI L i = some v) : ∃ x, v = .int x ∧ L.toArray[i]? = some (.val (.int x)) := by
  unfold ldI at h
  split at h
  · rename_i x e; cases h; exact ⟨x, rfl, arr_get e⟩
  · cases h
theorem ldJ_ok {L : List Slot} {i : Nat} {v : Value} (h : ldJ L i = some v) : ∃ x, v = .long x ∧ L.toArray[i]? = some (.val (.long x)) := by
  unfold ldJ at h
  split at h
  · rename_i x e; cases h; exact ⟨x, rfl, arr_get e⟩
  · cases h
theorem ldR_ok {L : List Slot} {i : Nat} {v : Value} (h : ldR L i = some v) : ∃ x, v = .ref x ∧ L.toArray[i]? = some (.val (.ref x)) := by
  unfold ldR at h
  split at h
  · rename_i x e; cases h; exact ⟨x, rfl, arr_get e⟩
  · cases h
theorem okv_ok {t : FieldType} {v : Value} (h : okv t v = true) : narrow t v = v ∧ fits t v = true := by
  unfold okv at h
  split at h
  · exact ⟨rfl, rfl⟩
  · rename_i z
    simp only [Bool.or_eq_true, beq_iff_eq] at h
    rcases h with rfl | rfl <;> exact ⟨rfl, rfl⟩
  · rename_i z
    simp only [beq_iff_eq] at h
    have q := fits_nar_byte z
    rw [h] at q
    exact ⟨by show Value.int _ = _; rw [h], q⟩
  · exact ⟨rfl, rfl⟩
  · exact ⟨rfl, rfl⟩
  · cases h
end Jvm.JX

namespace Jvm.JX
open Sem ClassFile Op Lib Jvm.Stand Jvm.Free Jvm.LawKit Jvm.RoadKit
section Step
variable {P : Prog} {tb : List Jvm.Cond} {C : String} {fn : Nat → String × String} {F : List Nat} {nsl : Nat} {nm : Nat → MethodName} {bt : Nat → ByteArray} {R : List Nat} {top : Nat}
variable {l : Launch} {Z : State} {a0 : Array Value} {n0 : Nat} {m pc len k n : Nat} {aux : Int} {L : List Slot} {S : List Value} {H : AH} {ins : Instr} {q : Fm}
variable {p : Program} {e : Env} {s : State} {mid : MethodId} {args : Array Value} {below : List Frame} {meth : Method} {c : Code} {T : State} {locs : List Loc} {Rm : Jvm.Room}
theorem go_same {start : State} {nl pc' : Nat} {L' : List Slot} {S' : List Value} (X : Stand p l e Rm s mid args below meth c T locs k n) (r : RelH C fn F Z n0 T.heap H) (N : Fr n0 locs) (hk : k ≤ Rm.cells) (hn : n ≤ Rm.slots) (hL : L'.length = nl)
    (st : ∀ target, Steps p.tables e below (T.setTop (mkF mid pc' L'.toArray S')) target → Steps p.tables e below start target) : Go C fn F Z n0 p l e Rm s mid args below meth c start nl (pc', L', S', k, n, H) := ⟨T, locs, X, r, N, hk, hn, hL, st⟩
theorem go_heap {start : State} {nl pc' : Nat} {L' : List Slot} {S' : List Value} {T' : State} (X : Stand p l e Rm s mid args below meth c T' locs k n) (r : RelH C fn F Z n0 T.heap H) (hh : T'.heap = T.heap) (N : Fr n0 locs) (hk : k ≤ Rm.cells) (hn : n ≤ Rm.slots) (hL : L'.length = nl)
    (st : ∀ target, Steps p.tables e below (T'.setTop (mkF mid pc' L'.toArray S')) target → Steps p.tables e below start target) : Go C fn F Z n0 p l e Rm s mid args below meth c start nl (pc', L', S', k, n, H) := ⟨T', locs, X, by rw [hh]; exact r, N, hk, hn, hL, st⟩
theorem idx_not {i : Int32} {n : Nat} (h1 : ¬ i < 0) (h2 : i.toNatClampNeg < n) : ¬ (i < 0 ∨ n ≤ i.toNatClampNeg) := fun h => h.elim h1 (Nat.not_le.mpr h2)
theorem inA_ok {a : Nat} {t : FieldType} {i : Int32} (h : inA H a t i = true) : (H.2 a).1 = .array t ∧ ¬ i < 0 ∧ i.toNatClampNeg < (H.2 a).2.1 := by
  simpa [inA, and_assoc] using h
theorem inAw_ok {a : Nat} {t : FieldType} {i : Int32} (h : inAw H a t i = true) : inA H a t i = true ∧ (H.2 a).2.2.1 = true := by
  simpa [inAw] using h
theorem isOw_ok {a : Nat} (h : isOw H a = true) : isO H a = true ∧ (H.2 a).2.2.1 = true := by simpa [isOw] using h
theorem RelH.wrF {h h' : Heap} {a j : Nat} {v : Value} (hG : Good P tb C fn F nsl nm bt R top) (hw : ∀ d ∈ tb, d.before a0 Z = true) (r : RelH C fn F Z n0 h H) (ha : isO H a = true) (hj : j ∈ F) (Wt : Wr h h' a (Jvm.RoadKit.slotOf Z C (fn j).1 (fn j).2) v) : RelH C fn F Z n0 h' (wr H a j v) := by
  refine ⟨by rw [Wt.size]; exact r.1, r.2.1, fun b => ?_⟩
  by_cases e : b = a
  · subst e
    obtain ⟨q1, q2⟩ := r.2.2 b
    obtain ⟨E, Fs⟩ := r.obj ha
    simp only [wr, if_true]
    refine ⟨q1, ?_⟩
    unfold isO at ha
    cases hk : (H.2 b).1 <;> rw [hk] at ha <;> try (cases ha; done)
    simp only
    refine ⟨E.wr Wt, fun i hi => ?_⟩
    by_cases e2 : i = j
    · subst e2; simp only [if_true]; exact (Fs i hi).same Wt
    · simp only [e2, if_false]
      refine (Fs i hi).other Wt (Or.inr ?_)
      have lw : ∀ k ∈ F, Laid Z a0 C C (fn k).1 (fn k).2 := fun k hk => ((hG.2.2.1 k hk).2).imp (hw _) (hw _)
      exact slot_ne (lw i hi) (lw j hj) (fun q => e2 (hG.2.2.2.1 i hi j hj q)) (hG.2.2.1 i hi).1 (hG.2.2.1 j hj).1
  · simp only [wr, e, if_false]
    obtain ⟨q1, q2⟩ := r.2.2 b
    refine ⟨q1, ?_⟩
    cases hk : (H.2 b).1 <;> simp only [hk] at q2 ⊢
    · exact ⟨q2.1.wr Wt, fun k hk => (q2.2 k hk).other Wt (Or.inl e)⟩
    · obtain ⟨q3, cl, q4, q5⟩ := q2; exact ⟨q3, cl, q4.other Wt e, q5⟩
theorem RelH.wrA {h h' : Heap} {a j : Nat} {t : FieldType} {v : Value} (r : RelH C fn F Z n0 h H) (ha : (H.2 a).1 = .array t) (hj : j < (H.2 a).2.1) (Wt : Wr h h' a j v) : RelH C fn F Z n0 h' (wr H a j v) := by
  refine ⟨by rw [Wt.size]; exact r.1, r.2.1, fun b => ?_⟩
  by_cases e : b = a
  · subst e
    obtain ⟨q1, q2⟩ := r.2.2 b
    obtain ⟨g1, cl, g2, g3, g4⟩ := r.arr ha
    simp only [wr, if_true]
    refine ⟨q1, ?_⟩
    simp only [ha]
    refine ⟨g1, cl.setSlot j v, g2.same Wt, by rw [sz_set]; exact g3, fun i hi => ?_⟩
    by_cases e2 : i = j
    · subst e2; simp [Cell.setSlot, g3, hj]
    · simp only [e2, if_false]; rw [← g4 i hi]; exact Array.getElem?_setIfInBounds_ne (Ne.symm e2)
  · simp only [wr, e, if_false]
    obtain ⟨q1, q2⟩ := r.2.2 b
    refine ⟨q1, ?_⟩
    cases hk : (H.2 b).1 <;> simp only [hk] at q2 ⊢
    · exact ⟨q2.1.wr Wt, fun k hk => (q2.2 k hk).other Wt (Or.inl e)⟩
    · obtain ⟨q3, cl, q4, q5⟩ := q2; exact ⟨q3, cl, q4.other Wt e, q5⟩
theorem ext_push (h : Heap) (x : Cell) : Ext h (h.push x) := ⟨by simp, fun a c q => by rw [Array.getElem?_push_lt (Array.getElem?_eq_some_iff.mp q).1]; exact (Array.getElem?_eq_getElem _).symm.trans q⟩
theorem made_obj {h : Heap} {cC : ClassId} {kC : Class} (hZ : Z.Warmed39 s.vm) (h1 : s.vm.findClass C = some cC) (h2 : s.vm.classes[cC]? = some kC) :
    Exa Z (h.push { cls := cC, slots := kC.instanceTypes.map defaultValue, vm := .none }) h.size C ∧ ∀ {nm d : String} {ty : FieldType}, Laid Z a0 C C nm d → parseFieldDescriptor d = some ty → Fld Z (h.push { cls := cC, slots := kC.instanceTypes.map defaultValue, vm := .none }) h.size C nm d (defaultValue ty) := by
  rw [hZ.alike.findClass] at h1
  obtain ⟨kZ, z1, -⟩ := Vm.findClass_spec h1
  obtain ⟨k', z2, z3⟩ := hZ.alike.2.2 _ _ z1
  cases h2.symm.trans z2
  have ei : kC.instanceTypes = kZ.instanceTypes := by rw [z3]
  have hN : ∀ x : Cell, (h.push x)[h.size]? = some x := fun x => by simp
  refine ⟨⟨_, kZ, hN _, h1, z1, rfl, fun _ => by simp [ei]⟩, fun {nm d ty} lw ht => ?_⟩
  obtain ⟨c1, k1, cf, kf, i, f, a1, a2, a3, a4, a5, a6, -⟩ := lw.spec
  cases h1.symm.trans a1
  cases z1.symm.trans a2
  exact ⟨_, cf, kf, i, f, hN _, a3, a4, by simp, rfl, a5, by simp [ei, a6, (State.fieldFound?_type a3 ht).2]⟩
theorem made_arr {h : Heap} {t : FieldType} {cA comp : ClassId} {kA : Class} {xs : Array Value} (hZ : Z.Warmed39 s.vm) (h1 : s.vm.findClass ("[" ++ t.toString) = some cA) (h2 : s.vm.classes[cA]? = some kA) (h3 : kA.kind = .array comp t) : Arr Z (h.push { cls := cA, slots := xs, vm := .none }) h.size { cls := cA, slots := xs, vm := .none } t := by
  rw [hZ.alike.findClass] at h1
  obtain ⟨kZ, z1, -⟩ := Vm.findClass_spec h1
  obtain ⟨k', z2, z3⟩ := hZ.alike.2.2 _ _ z1
  cases h2.symm.trans z2
  exact ⟨by simp, ⟨by simp, kZ, z1, comp, by rw [← h3, z3]⟩, by simp⟩
set_option maxHeartbeats 4000000 in
theorem stp_go (hG : Good P tb C fn F nsl nm bt R top) (hw : ∀ d ∈ tb, d.before a0 Z = true) (hm : m ∈ R) (hrow : P.1 m pc = some (ins, len, aux)) (h : stp P m ins len aux pc L S k n H = some q) (X : Stand p l e (rm P m) s mid args below meth c T locs k n) (hx : p.tables.exec = Jvm.exec) (hZ : Z.Warmed39 s.vm)
    (hby : c.code = bt m) (hml : c.maxLocals = ml P m) (hown : s.vm.findClass (nm m).cls = some mid.cls) (hnm : meth.name = (nm m).name) (hL : L.length = ml P m) (r : RelH C fn F Z n0 T.heap H) (N : Fr n0 locs) (hk : k ≤ (rm P m).cells) (hn : n ≤ (rm P m).slots) :
    Go C fn F Z n0 p l e (rm P m) s mid args below meth c (T.setTop (mkF mid pc L.toArray S)) (ml P m) q := by
  obtain ⟨hd, hl, ho⟩ := (hG.2.2.2.2.1 m hm).2.2 pc ins len aux hrow
  replace hd := hb hby hd
  cases ins with
  | iconst i =>
    have hl : len = 1 := hl; subst hl
    obtain rfl := Option.some.inj h
    exact go_same X r N hk hn hL fun t g => XS.iconst X.here hx rfl hd g
  | bipush i =>
    have hl : len = 2 := hl; subst hl
    obtain rfl := Option.some.inj h
    exact go_same X r N hk hn hL fun t g => XS.bipush X.here hx rfl hd g
  | sipush i =>
    have hl : len = 3 := hl; subst hl
    obtain rfl := Option.some.inj h
    exact go_same X r N hk hn hL fun t g => XS.sipush X.here hx rfl hd g
  | lconst i =>
    have hl : len = 1 := hl; subst hl
    obtain rfl := Option.some.inj h
    exact go_same X r N hk hn hL fun t g => XT.lconst X.here hx rfl hd g
  | ldc i =>
    have hl : len = 2 := hl; subst hl
    obtain rfl := Option.some.inj h
    exact go_same X r N hk hn hL fun t g => X.ldcI hx hown (mv hZ (hw _ ho)) rfl hd g
  | ldc2_w i =>
    have hl : len = 3 := hl; subst hl
    obtain rfl := Option.some.inj h
    exact go_same X r N hk hn hL fun t g => X.ldc2J hx hown (mv hZ (hw _ ho)) rfl hd g
  | iload i =>
    have hl : len = 2 := hl; subst hl
    obtain ⟨v, hv, rfl⟩ := Option.map_eq_some_iff.mp h
    obtain ⟨x, rfl, hg⟩ := ldI_ok hv
    exact go_same X r N hk hn hL fun t g => XS.iload X.here hx rfl hd hg g
  | iload_n i =>
    have hl : len = 1 := hl; subst hl
    obtain ⟨v, hv, rfl⟩ := Option.map_eq_some_iff.mp h
    obtain ⟨x, rfl, hg⟩ := ldI_ok hv
    exact go_same X r N hk hn hL fun t g => XS.iloadN X.here hx rfl hd hg g
  | lload i =>
    have hl : len = 2 := hl; subst hl
    obtain ⟨v, hv, rfl⟩ := Option.map_eq_some_iff.mp h
    obtain ⟨x, rfl, hg⟩ := ldJ_ok hv
    exact go_same X r N hk hn hL fun t g => XT.lload X.here hx rfl hd hg g
  | lload_n i =>
    have hl : len = 1 := hl; subst hl
    obtain ⟨v, hv, rfl⟩ := Option.map_eq_some_iff.mp h
    obtain ⟨x, rfl, hg⟩ := ldJ_ok hv
    exact go_same X r N hk hn hL fun t g => XT.lloadN X.here hx rfl hd hg g
  | aload i =>
    have hl : len = 2 := hl; subst hl
    obtain ⟨v, hv, rfl⟩ := Option.map_eq_some_iff.mp h
    obtain ⟨x, rfl, hg⟩ := ldR_ok hv
    exact go_same X r N hk hn hL fun t g => XS.aload X.here hx rfl hd hg rfl g
  | aload_n i =>
    have hl : len = 1 := hl; subst hl
    obtain ⟨v, hv, rfl⟩ := Option.map_eq_some_iff.mp h
    obtain ⟨x, rfl, hg⟩ := ldR_ok hv
    exact go_same X r N hk hn hL fun t g => XS.aloadN X.here hx rfl hd hg rfl g
  | istore i =>
    have hl : len = 2 := hl; subst hl
    dsimp only [stp] at h
    split at h
    · rename_i x S'
      obtain ⟨L', hv, rfl⟩ := Option.map_eq_some_iff.mp h
      obtain ⟨g1, g2⟩ := stl_ok rfl hv
      exact go_same X r N hk hn (g2.trans hL) fun t g => XS.istore X.here hx rfl hd rfl g1 g
    · cases h
  | istore_n i =>
    have hl : len = 1 := hl; subst hl
    dsimp only [stp] at h
    split at h
    · rename_i x S'
      obtain ⟨L', hv, rfl⟩ := Option.map_eq_some_iff.mp h
      obtain ⟨g1, g2⟩ := stl_ok rfl hv
      exact go_same X r N hk hn (g2.trans hL) fun t g => XS.istoreN X.here hx rfl hd rfl g1 g
    · cases h
  | astore i =>
    have hl : len = 2 := hl; subst hl
    dsimp only [stp] at h
    split at h
    · rename_i x S'
      obtain ⟨L', hv, rfl⟩ := Option.map_eq_some_iff.mp h
      obtain ⟨g1, g2⟩ := stl_ok rfl hv
      exact go_same X r N hk hn (g2.trans hL) fun t g => XS.astore X.here hx rfl hd rfl rfl g1 g
    · cases h
  | astore_n i =>
    have hl : len = 1 := hl; subst hl
    dsimp only [stp] at h
    split at h
    · rename_i x S'
      obtain ⟨L', hv, rfl⟩ := Option.map_eq_some_iff.mp h
      obtain ⟨g1, g2⟩ := stl_ok rfl hv
      exact go_same X r N hk hn (g2.trans hL) fun t g => XS.astoreN X.here hx rfl hd rfl rfl g1 g
    · cases h
  | lstore i =>
    have hl : len = 2 := hl; subst hl
    dsimp only [stp] at h
    split at h
    · rename_i x S'
      obtain ⟨L', hv, rfl⟩ := Option.map_eq_some_iff.mp h
      obtain ⟨g1, g2⟩ := stL_ok rfl hv
      exact go_same X r N hk hn (g2.trans hL) fun t g => XT.lstore X.here hx rfl hd rfl g1 g
    · cases h
  | lstore_n i =>
    have hl : len = 1 := hl; subst hl
    dsimp only [stp] at h
    split at h
    · rename_i x S'
      obtain ⟨L', hv, rfl⟩ := Option.map_eq_some_iff.mp h
      obtain ⟨g1, g2⟩ := stL_ok rfl hv
      exact go_same X r N hk hn (g2.trans hL) fun t g => XT.lstoreN X.here hx rfl hd rfl g1 g
    · cases h
  | iinc i cst =>
    have hl : len = 3 := hl; subst hl
    dsimp only [stp] at h
    split at h
    · rename_i x hx1
      obtain rfl := Option.some.inj h
      have g1 : storeLocals L.toArray i (.int (x + Int32.ofInt cst)) = some (L.set i (.val (.int (x + Int32.ofInt cst)))).toArray := (stl_ok rfl (stl_plain hx1 rfl)).1
      exact go_same X r N hk hn (by simpa using hL) fun t g => XS.iinc X.here hx rfl hd (arr_get hx1) g1 g
    · cases h
  | iadd =>
    have hl : len = 1 := hl; subst hl
    dsimp only [stp] at h
    split at h
    · rename_i y x S'
      obtain rfl := Option.some.inj h
      exact go_same X r N hk hn hL fun t g => XS.iadd X.here hx rfl hd rfl g
    · cases h
  | isub =>
    have hl : len = 1 := hl; subst hl
    dsimp only [stp] at h
    split at h
    · rename_i y x S'
      obtain rfl := Option.some.inj h
      exact go_same X r N hk hn hL fun t g => XS.isub X.here hx rfl hd rfl g
    · cases h
  | imul =>
    have hl : len = 1 := hl; subst hl
    dsimp only [stp] at h
    split at h
    · rename_i y x S'
      obtain rfl := Option.some.inj h
      exact go_same X r N hk hn hL fun t g => XS.imul X.here hx rfl hd rfl g
    · cases h
  | iand =>
    have hl : len = 1 := hl; subst hl
    dsimp only [stp] at h
    split at h
    · rename_i y x S'
      obtain rfl := Option.some.inj h
      exact go_same X r N hk hn hL fun t g => XS.iand X.here hx rfl hd rfl g
    · cases h
  | ior =>
    have hl : len = 1 := hl; subst hl
    dsimp only [stp] at h
    split at h
    · rename_i y x S'
      obtain rfl := Option.some.inj h
      exact go_same X r N hk hn hL fun t g => XT.ior X.here hx rfl hd rfl g
    · cases h
  | ixor =>
    have hl : len = 1 := hl; subst hl
    dsimp only [stp] at h
    split at h
    · rename_i y x S'
      obtain rfl := Option.some.inj h
      exact go_same X r N hk hn hL fun t g => XT.ixor X.here hx rfl hd rfl g
    · cases h
  | ishl =>
    have hl : len = 1 := hl; subst hl
    dsimp only [stp] at h
    split at h
    · rename_i y x S'
      obtain rfl := Option.some.inj h
      exact go_same X r N hk hn hL fun t g => XT.ishl X.here hx rfl hd rfl g
    · cases h
  | ishr =>
    have hl : len = 1 := hl; subst hl
    dsimp only [stp] at h
    split at h
    · rename_i y x S'
      obtain rfl := Option.some.inj h
      exact go_same X r N hk hn hL fun t g => XT.ishr X.here hx rfl hd rfl g
    · cases h
  | iushr =>
    have hl : len = 1 := hl; subst hl
    dsimp only [stp] at h
    split at h
    · rename_i y x S'
      obtain rfl := Option.some.inj h
      exact go_same X r N hk hn hL fun t g => XT.iushr X.here hx rfl hd rfl g
    · cases h
  | ladd =>
    have hl : len = 1 := hl; subst hl
    dsimp only [stp] at h
    split at h
    · rename_i y x S'
      obtain rfl := Option.some.inj h
      exact go_same X r N hk hn hL fun t g => XT.ladd X.here hx rfl hd rfl g
    · cases h
  | lsub =>
    have hl : len = 1 := hl; subst hl
    dsimp only [stp] at h
    split at h
    · rename_i y x S'
      obtain rfl := Option.some.inj h
      exact go_same X r N hk hn hL fun t g => XT.lsub X.here hx rfl hd rfl g
    · cases h
  | lmul =>
    have hl : len = 1 := hl; subst hl
    dsimp only [stp] at h
    split at h
    · rename_i y x S'
      obtain rfl := Option.some.inj h
      exact go_same X r N hk hn hL fun t g => XT.lmul X.here hx rfl hd rfl g
    · cases h
  | land =>
    have hl : len = 1 := hl; subst hl
    dsimp only [stp] at h
    split at h
    · rename_i y x S'
      obtain rfl := Option.some.inj h
      exact go_same X r N hk hn hL fun t g => XT.land X.here hx rfl hd rfl g
    · cases h
  | lor =>
    have hl : len = 1 := hl; subst hl
    dsimp only [stp] at h
    split at h
    · rename_i y x S'
      obtain rfl := Option.some.inj h
      exact go_same X r N hk hn hL fun t g => XT.lor X.here hx rfl hd rfl g
    · cases h
  | lxor =>
    have hl : len = 1 := hl; subst hl
    dsimp only [stp] at h
    split at h
    · rename_i y x S'
      obtain rfl := Option.some.inj h
      exact go_same X r N hk hn hL fun t g => XT.lxor X.here hx rfl hd rfl g
    · cases h
  | lshl =>
    have hl : len = 1 := hl; subst hl
    dsimp only [stp] at h
    split at h
    · rename_i y x S'
      obtain rfl := Option.some.inj h
      exact go_same X r N hk hn hL fun t g => XT.lshl X.here hx rfl hd rfl g
    · cases h
  | lshr =>
    have hl : len = 1 := hl; subst hl
    dsimp only [stp] at h
    split at h
    · rename_i y x S'
      obtain rfl := Option.some.inj h
      exact go_same X r N hk hn hL fun t g => XT.lshr X.here hx rfl hd rfl g
    · cases h
  | lushr =>
    have hl : len = 1 := hl; subst hl
    dsimp only [stp] at h
    split at h
    · rename_i y x S'
      obtain rfl := Option.some.inj h
      exact go_same X r N hk hn hL fun t g => XT.lushr X.here hx rfl hd rfl g
    · cases h
  | idiv =>
    have hl : len = 1 := hl; subst hl
    dsimp only [stp] at h
    split at h
    · rename_i y x S'
      split at h
      · cases h
      · rename_i g0
        obtain rfl := Option.some.inj h
        exact go_same X r N hk hn hL fun t g => XS.idiv X.here hx rfl hd rfl g0 g
    · cases h
  | irem =>
    have hl : len = 1 := hl; subst hl
    dsimp only [stp] at h
    split at h
    · rename_i y x S'
      split at h
      · cases h
      · rename_i g0
        obtain rfl := Option.some.inj h
        exact go_same X r N hk hn hL fun t g => iremM X hx rfl hd rfl g0 g
    · cases h
  | ldiv =>
    have hl : len = 1 := hl; subst hl
    dsimp only [stp] at h
    split at h
    · rename_i y x S'
      split at h
      · cases h
      · rename_i g0
        obtain rfl := Option.some.inj h
        exact go_same X r N hk hn hL fun t g => XT.ldiv X.here hx rfl hd rfl g0 g
    · cases h
  | lrem =>
    have hl : len = 1 := hl; subst hl
    dsimp only [stp] at h
    split at h
    · rename_i y x S'
      split at h
      · cases h
      · rename_i g0
        obtain rfl := Option.some.inj h
        exact go_same X r N hk hn hL fun t g => XT.lrem X.here hx rfl hd rfl g0 (by rw [lrem_mod]; exact g)
    · cases h
  | ineg =>
    have hl : len = 1 := hl; subst hl
    dsimp only [stp] at h
    split at h
    · rename_i x S'
      obtain rfl := Option.some.inj h
      exact go_same X r N hk hn hL fun t g => XS.ineg X.here hx rfl hd rfl g
    · cases h
  | lneg =>
    have hl : len = 1 := hl; subst hl
    dsimp only [stp] at h
    split at h
    · rename_i x S'
      obtain rfl := Option.some.inj h
      exact go_same X r N hk hn hL fun t g => XT.lneg X.here hx rfl hd rfl g
    · cases h
  | i2l =>
    have hl : len = 1 := hl; subst hl
    dsimp only [stp] at h
    split at h
    · rename_i x S'
      obtain rfl := Option.some.inj h
      exact go_same X r N hk hn hL fun t g => XT.i2l X.here hx rfl hd rfl g
    · cases h
  | l2i =>
    have hl : len = 1 := hl; subst hl
    dsimp only [stp] at h
    split at h
    · rename_i x S'
      obtain rfl := Option.some.inj h
      exact go_same X r N hk hn hL fun t g => XT.l2i X.here hx rfl hd rfl g
    · cases h
  | i2b =>
    have hl : len = 1 := hl; subst hl
    dsimp only [stp] at h
    split at h
    · rename_i x S'
      obtain rfl := Option.some.inj h
      exact go_same X r N hk hn hL fun t g => XT.i2b X.here hx rfl hd rfl g
    · cases h
  | lcmp =>
    have hl : len = 1 := hl; subst hl
    dsimp only [stp] at h
    split at h
    · rename_i y x S'
      obtain rfl := Option.some.inj h
      exact go_same X r N hk hn hL fun t g => XT.lcmp X.here hx rfl hd rfl g
    · cases h
  | dup =>
    have hl : len = 1 := hl; subst hl
    dsimp only [stp] at h
    split at h
    · rename_i v S'
      split at h
      · rename_i g0
        obtain rfl := Option.some.inj h
        exact go_same X r N hk hn hL fun t g => XS.dup X.here hx rfl hd rfl g0 g
      · cases h
    · cases h
  | pop =>
    have hl : len = 1 := hl; subst hl
    dsimp only [stp] at h
    split at h
    · rename_i v S'
      split at h
      · rename_i g0
        obtain rfl := Option.some.inj h
        exact go_same X r N hk hn hL fun t g => XT.pop X.here hx rfl hd rfl g0 g
      · cases h
    · cases h
  | dup2 =>
    have hl : len = 1 := hl; subst hl
    dsimp only [stp] at h
    split at h
    · rename_i x S'
      obtain rfl := Option.some.inj h
      exact go_same X r N hk hn hL fun t g => XT.dup2L X.here hx rfl hd rfl g
    · rename_i v w S' _
      split at h
      · rename_i g0
        obtain rfl := Option.some.inj h
        exact go_same X r N hk hn hL fun t g => XT.dup2 X.here hx rfl hd rfl g0.1 g0.2 g
      · cases h
    · cases h
  | goto o =>
    have hl : len = 3 := hl; subst hl
    obtain ⟨v, hv, rfl⟩ := Option.map_eq_some_iff.mp h
    obtain ⟨g1, g2⟩ := jmp_ok hv
    exact go_same X r N hk hn hL fun t g => XS.goto X.here hx rfl rfl hd g1 g2 g
  | ifCond cd o =>
    have hl : len = 3 := hl; subst hl
    dsimp only [stp] at h
    split at h
    · rename_i x S'
      split at h
      · rename_i g0
        obtain ⟨v, hv, rfl⟩ := Option.map_eq_some_iff.mp h
        obtain ⟨g1, g2⟩ := jmp_ok hv
        exact go_same X r N hk hn hL fun t g => XS.ifYes X.here hx rfl rfl hd rfl g0 g1 g2 g
      · rename_i g0
        obtain rfl := Option.some.inj h
        exact go_same X r N hk hn hL fun t g => XS.ifNo X.here hx rfl hd rfl (by simpa using g0) g
    · cases h
  | if_icmp cd o =>
    have hl : len = 3 := hl; subst hl
    dsimp only [stp] at h
    split at h
    · rename_i y x S'
      split at h
      · rename_i g0
        obtain ⟨v, hv, rfl⟩ := Option.map_eq_some_iff.mp h
        obtain ⟨g1, g2⟩ := jmp_ok hv
        exact go_same X r N hk hn hL fun t g => XS.icmpYes X.here hx rfl rfl hd rfl g0 g1 g2 g
      · rename_i g0
        obtain rfl := Option.some.inj h
        exact go_same X r N hk hn hL fun t g => XS.icmpNo X.here hx rfl hd rfl (by simpa using g0) g
    · cases h
  | tableswitch d lo hi os =>
    dsimp only [stp] at h
    split at h
    · rename_i x S'
      split at h
      · rename_i g0
        obtain ⟨v, hv, rfl⟩ := Option.map_eq_some_iff.mp h
        obtain ⟨g1, g2⟩ := jmp_ok hv
        exact go_same X r N hk hn hL fun t g => XS.tswOut X.here hx rfl rfl hd rfl g0 g1 g2 g
      · rename_i g0
        obtain ⟨o, ho1, h⟩ := Option.bind_eq_some_iff.mp h
        obtain ⟨v, hv, rfl⟩ := Option.map_eq_some_iff.mp h
        obtain ⟨g1, g2⟩ := jmp_ok hv
        exact go_same X r N hk hn hL fun t g => XS.tswIn X.here hx rfl rfl hd rfl g0 ho1 g1 g2 g
    · cases h
  | getfield i =>
    have hl : len = 3 := hl; subst hl
    dsimp only [stp] at h
    split at h
    · rename_i a S'
      split at h
      · rename_i g0
        obtain rfl := Option.some.inj h
        obtain ⟨T1, X1, e1, st1⟩ := getF X hx hZ hown (host := "") (Or.inl (hw _ ho.2)) Via.refl rfl ((r.obj g0).2 _ ho.1) (g := mkF mid pc L.toArray (.ref a :: S')) rfl rfl hd
        exact go_heap X1 r e1 N hk hn hL fun t g => st1 t g
      · cases h
    · cases h
  | putfield i =>
    have hl : len = 3 := hl; subst hl
    dsimp only [stp] at h
    split at h
    · rename_i v a S'
      split at h
      · rename_i g0
        obtain rfl := Option.some.inj h
        obtain ⟨o1, o2, o3⟩ := ho
        obtain ⟨w1, w2⟩ := isOw_ok g0.1
        obtain ⟨n1, n2⟩ := okv_ok g0.2
        have hlay : (Jvm.Cond.lays C C (fn aux.toNat).1 (fn aux.toNat).2).before a0 Z = true ∨ ((Jvm.Cond.laysFinal C C (fn aux.toNat).1 (fn aux.toNat).2).before a0 Z = true ∧ (nm m).cls = C ∧ meth.name = "<init>") := by
          rcases o3 with q | ⟨q1, q2⟩
          · exact Or.inl (hw _ q)
          · rcases (hG.2.2.1 _ o1).2 with q | q
            · exact Or.inl (hw _ q)
            · exact Or.inr ⟨hw _ q, q1, hnm.trans q2⟩
        obtain ⟨T1, h1, X1, e1, W1, st1⟩ := putF X hx hZ hown (host := "") (Or.inl (hw _ o2)) Via.refl rfl ((r.obj w1).2 _ o1) (r.obj w1).1 hlay (hw _ hG.1) (hG.2.2.1 _ o1).1 n1 n2 (g := mkF mid pc L.toArray (v :: .ref a :: S')) rfl rfl hd
        exact ⟨T1, _, X1, by rw [e1]; exact r.wrF hG hw w1 o1 W1, Fr.snoc X1 N (r.own w2), hk, hn, hL, st1⟩
      · cases h
    · cases h
  | iaload =>
    have hl : len = 1 := hl; subst hl
    dsimp only [stp] at h
    split at h
    · rename_i i a S'
      split at h
      · rename_i g0
        obtain rfl := Option.some.inj h
        obtain ⟨w1, w2, w3⟩ := inA_ok g0
        obtain ⟨b1, cl, b2, b3, b4⟩ := r.arr w1
        exact go_same X r N hk hn hL fun t g => X.iaload hx (g := mkF mid pc L.toArray (.int i :: .ref a :: S')) b2.1 (State.isArrayOf_alike hZ.alike b2.2.1) b2.2.2 (by rw [b3]; exact idx_not w2 w3) (b4 _ w3) rfl rfl hd t g
      · cases h
    · cases h
  | laload =>
    have hl : len = 1 := hl; subst hl
    dsimp only [stp] at h
    split at h
    · rename_i i a S'
      split at h
      · rename_i g0
        obtain rfl := Option.some.inj h
        obtain ⟨w1, w2, w3⟩ := inA_ok g0
        obtain ⟨b1, cl, b2, b3, b4⟩ := r.arr w1
        exact go_same X r N hk hn hL fun t g => X.laload hx (g := mkF mid pc L.toArray (.int i :: .ref a :: S')) b2.1 (State.isArrayOf_alike hZ.alike b2.2.1) b2.2.2 (by rw [b3]; exact idx_not w2 w3) (b4 _ w3) rfl rfl hd t g
      · cases h
    · cases h
  | baload =>
    have hl : len = 1 := hl; subst hl
    dsimp only [stp] at h
    split at h
    · rename_i i a S'
      split at h
      · rename_i g0
        obtain rfl := Option.some.inj h
        rcases g0 with g0 | g0
        · obtain ⟨w1, w2, w3⟩ := inA_ok g0
          obtain ⟨b1, cl, b2, b3, b4⟩ := r.arr w1
          exact go_same X r N hk hn hL fun t g => X.baloadBytes hx (g := mkF mid pc L.toArray (.int i :: .ref a :: S')) b2.1 (State.isArrayOf_alike hZ.alike b2.2.1) b2.2.2 (by rw [b3]; exact idx_not w2 w3) (b4 _ w3) rfl rfl hd t g
        · obtain ⟨w1, w2, w3⟩ := inA_ok g0
          obtain ⟨b1, cl, b2, b3, b4⟩ := r.arr w1
          exact go_same X r N hk hn hL fun t g => X.baloadBooleans hx (g := mkF mid pc L.toArray (.int i :: .ref a :: S')) b2.1 (State.isArrayOf_alike hZ.alike b2.2.1) b2.2.2 (by rw [b3]; exact idx_not w2 w3) (b4 _ w3) rfl rfl hd t g
      · cases h
    · cases h
  | iastore =>
    have hl : len = 1 := hl; subst hl
    dsimp only [stp] at h
    split at h
    · rename_i x i a S'
      split at h
      · rename_i g0
        obtain rfl := Option.some.inj h
        obtain ⟨g1, g2⟩ := inAw_ok g0
        obtain ⟨w1, w2, w3⟩ := inA_ok g1
        obtain ⟨b1, cl, b2, b3, b4⟩ := r.arr w1
        obtain ⟨T1, h1, X1, e1, W1, st1⟩ := stI X hx hZ rfl b2 (j := i) (x := x) (by rw [b3]; exact idx_not w2 w3) (g := mkF mid pc L.toArray (.int x :: .int i :: .ref a :: S')) rfl rfl hd
        exact ⟨T1, _, X1, by rw [e1]; exact r.wrA w1 w3 W1, Fr.snoc X1 N (r.own g2), hk, hn, hL, st1⟩
      · cases h
    · cases h
  | lastore =>
    have hl : len = 1 := hl; subst hl
    dsimp only [stp] at h
    split at h
    · rename_i x i a S'
      split at h
      · rename_i g0
        obtain rfl := Option.some.inj h
        obtain ⟨g1, g2⟩ := inAw_ok g0
        obtain ⟨w1, w2, w3⟩ := inA_ok g1
        obtain ⟨b1, cl, b2, b3, b4⟩ := r.arr w1
        obtain ⟨T1, h1, X1, e1, W1, st1⟩ := stJ X hx hZ rfl b2 (j := i) (x := x) (by rw [b3]; exact idx_not w2 w3) (g := mkF mid pc L.toArray (.long x :: .int i :: .ref a :: S')) rfl rfl hd
        exact ⟨T1, _, X1, by rw [e1]; exact r.wrA w1 w3 W1, Fr.snoc X1 N (r.own g2), hk, hn, hL, st1⟩
      · cases h
    · cases h
  | bastore =>
    have hl : len = 1 := hl; subst hl
    dsimp only [stp] at h
    split at h
    · rename_i x i a S'
      split at h
      · rename_i g0
        obtain rfl := Option.some.inj h
        rcases g0 with ⟨g0, gx⟩ | ⟨g0, gx⟩
        · obtain ⟨g1, g2⟩ := inAw_ok g0
          obtain ⟨w1, w2, w3⟩ := inA_ok g1
          obtain ⟨b1, cl, b2, b3, b4⟩ := r.arr w1
          have hx2 : nar .byte x = x := Value.int.inj (okv_ok gx).1
          obtain ⟨T1, h1, X1, e1, W1, st1⟩ := stB X hx hZ rfl b2 (j := i) (x := x) (by rw [b3]; exact idx_not w2 w3) (g := mkF mid pc L.toArray (.int x :: .int i :: .ref a :: S')) rfl rfl hd
          rw [hx2] at W1
          exact ⟨T1, _, X1, by rw [e1]; exact r.wrA w1 w3 W1, Fr.snoc X1 N (r.own g2), hk, hn, hL, st1⟩
        · obtain ⟨g1, g2⟩ := inAw_ok g0
          obtain ⟨w1, w2, w3⟩ := inA_ok g1
          obtain ⟨b1, cl, b2, b3, b4⟩ := r.arr w1
          have hx2 : nar .boolean x = x := Value.int.inj (okv_ok gx).1
          obtain ⟨T1, h1, X1, e1, W1, st1⟩ := stZ X hx hZ rfl b2 (j := i) (x := x) (by rw [b3]; exact idx_not w2 w3) (g := mkF mid pc L.toArray (.int x :: .int i :: .ref a :: S')) rfl rfl hd
          rw [hx2] at W1
          exact ⟨T1, _, X1, by rw [e1]; exact r.wrA w1 w3 W1, Fr.snoc X1 N (r.own g2), hk, hn, hL, st1⟩
      · cases h
    · cases h
  | arraylength =>
    have hl : len = 1 := hl; subst hl
    dsimp only [stp] at h
    split at h
    · rename_i a S'
      split at h
      · rename_i g0
        obtain rfl := Option.some.inj h
        obtain ⟨t0, w1⟩ : ∃ t0, (H.2 a).1 = .array t0 := by unfold isA at g0; cases hq : (H.2 a).1 <;> rw [hq] at g0 <;> first | (cases g0; done) | exact ⟨_, rfl⟩
        obtain ⟨b1, cl, b2, b3, b4⟩ := r.arr w1
        refine go_same X r N hk hn hL fun t g => X.arraylength hx (g := mkF mid pc L.toArray (.ref a :: S')) b2.1 (State.isArrayOf_alike hZ.alike b2.2.1) rfl rfl hd t ?_
        rw [b3]; exact g
      · cases h
    · cases h
  | newarray t =>
    have hl : len = 2 := hl; subst hl
    dsimp only [stp] at h
    split at h
    · rename_i cnt S'
      split at h
      · rename_i g0
        obtain rfl := Option.some.inj h
        obtain ⟨z1, z2, z3, z4⟩ := g0
        have hcb : componentBytes (newarray.typeOf t) ≤ 8 := by cases t <;> decide
        obtain ⟨cA, kA, comp, h1, h2, h3, X1, st1⟩ := X.newarrayPrim hx (mvA hZ (hw _ ho)) (g := mkF mid pc L.toArray (.int cnt :: S')) rfl hd rfl z1 (Nat.le_trans (Nat.mul_le_mul_left _ hcb) z2) z3 z4
        refine ⟨_, locs, X1, ?_, N, z3, z4, hL, fun t g => st1 t (by rw [r.1]; exact g)⟩
        exact r.ext (ext_push _ _) (by show (T.heap.push _).size = _; simp) ⟨fun _ => by rw [r.1]; exact r.2.1, (back32 z1).2, _, made_arr hZ h1 h2 h3, by simp, fun i hi => by simp [hi]⟩
      · cases h
    · cases h
  | new i =>
    have hl : len = 3 := hl; subst hl
    dsimp only [stp] at h
    split at h
    · rename_i g0
      obtain rfl := Option.some.inj h
      obtain ⟨z1, z2, z3⟩ := g0
      rw [ho.1] at z3 ⊢
      obtain ⟨vm1, cC, kC, h1, h2, h3, h4, X1, st1⟩ := X.newCold hx hown (mv hZ (hw _ ho.2)) (mv hZ (hw _ hG.1)) (mv hZ (hw _ hG.2.1)) (g := mkF mid pc L.toArray S) rfl hd z2 z3
      obtain ⟨A1, D1⟩ := made_obj (h := T.heap) (a0 := a0) hZ h1 h2
      refine ⟨_, locs, X1, ?_, N, z2, z3, hL, fun t g => st1 t (by rw [r.1]; exact g)⟩
      exact r.ext (ext_push _ _) (by show (T.heap.push _).size = _; simp) ⟨fun _ => by rw [r.1]; exact r.2.1, A1, fun j hj => D1 (((hG.2.2.1 j hj).2).imp (hw _) (hw _)) (hG.2.2.1 j hj).1⟩
    · cases h
  | invokespecial i =>
    have hl : len = 3 := hl; subst hl
    dsimp only [stp] at h
    split at h
    · rename_i a S'
      split at h
      · rename_i g0
        obtain rfl := Option.some.inj h
        obtain ⟨rfl, z2, z3⟩ := g0
        obtain ⟨o1, o2, o3⟩ := ho.1 rfl
        obtain ⟨T1, X1, e1, st1⟩ := initO X hx hZ hown (hw _ o1) (hw _ o2) (hw _ o3) rfl (g := mkF mid pc L.toArray (.ref a :: S')) rfl (by rw [hml, ← hL]; simp) rfl hd z2 (W := cs S') (by show 2 * 0 + _ ≤ _; exact Nat.le_of_eq (Nat.zero_add _)) z3
        exact go_heap X1 r e1 N hk hn hL fun t g => st1 t g
      · cases h
    · cases h
  | _ => exact absurd (show (none : Option Fm) = some q from h) (by simp)
end Step
end Jvm.JX

namespace Jvm.JX
open Sem ClassFile Op Lib Jvm.Stand Jvm.Free Jvm.LawKit Jvm.RoadKit
section Sound
variable {P : Prog} {tb : List Jvm.Cond} {C : String} {fn : Nat → String × String} {F : List Nat} {nsl : Nat} {nm : Nat → MethodName} {bt : Nat → ByteArray} {R : List Nat} {top : Nat}
variable {l : Launch} {Z : State} {a0 : Array Value} {n0 : Nat}
def Endd (C : String) (fn : Nat → String × String) (F : List Nat) (Z : State) (n0 : Nat) (p : Program) (l : Launch) (e : Env) (Rm : Jvm.Room) (s : State) (mid : MethodId) (args : Array Value) (below : List Frame) (meth : Method) (c : Code) (rt0 : Option FieldType) (start : State) (v : Option Value) (H' : AH) : Prop :=
  ∃ T' locs' k' n', Stand p l e Rm s mid args below meth c T' locs' k' n' ∧ RelH C fn F Z n0 T'.heap H' ∧ Fr n0 locs' ∧ k' ≤ Rm.cells ∧ n' ≤ Rm.slots ∧ (rt0 = none → v = none) ∧
    ∀ fs, (∀ (f : JFrame) (acts : List Action), f.method = mid → f.locked = none → f.entered = [] → (doReturn e (T'.setTop f) acts v).1 = T'.setFrames fs) → Steps p.tables e below start (T'.setFrames fs)
def Says (P : Prog) (C : String) (fn : Nat → String × String) (F : List Nat) (nm : Nat → MethodName) (bt : Nat → ByteArray) (l : Launch) (Z : State) (n0 m pc : Nat) (L : List Slot) (S : List Value) (k n : Nat) (H : AH) (v : Option Value) (H' : AH) : Prop :=
  ∀ (p : Program) (e : Env) (s : State) (mid : MethodId) (args : Array Value) (below : List Frame) (meth : Method) (c : Code) (T : State) (locs : List Loc), Stand p l e (rm P m) s mid args below meth c T locs k n → p.tables.exec = Jvm.exec → Z.Warmed39 s.vm → c.code = bt m → c.maxLocals = ml P m →
    s.vm.findClass (nm m).cls = some mid.cls → meth.name = (nm m).name → meth.sig.returnType = rt P m → L.length = ml P m → RelH C fn F Z n0 T.heap H → Fr n0 locs → k ≤ (rm P m).cells → n ≤ (rm P m).slots →
    Endd C fn F Z n0 p l e (rm P m) s mid args below meth c (rt P m) (T.setTop (mkF mid pc L.toArray S)) v H'
theorem Endd.back {p : Program} {e : Env} {Rm : Jvm.Room} {s : State} {mid : MethodId} {args : Array Value} {below : List Frame} {meth : Method} {c : Code} {rt0 : Option FieldType} {start start' : State} {v : Option Value} {H' : AH}
    (h : Endd C fn F Z n0 p l e Rm s mid args below meth c rt0 start' v H') (st : ∀ t, Steps p.tables e below start' t → Steps p.tables e below start t) : Endd C fn F Z n0 p l e Rm s mid args below meth c rt0 start v H' := by
  obtain ⟨T', locs', k', n', h1, h2, h3, h4, h5, h6, h7⟩ := h
  exact ⟨T', locs', k', n', h1, h2, h3, h4, h5, h6, fun fs g => st _ (h7 fs g)⟩
theorem met_of {m : Nat} {as : List Value} {H H' : AH} {v : Option Value} {h : Heap} (ws : List Jvm.Cond) (hp : plainName (nm m).cls = true) (hl : (Sym.laidSlots as).length ≤ ml P m) (r : RelH C fn F Z n0 h H)
    (hS : Says P C fn F nm bt l Z n0 m 0 (ent P m as) [] 0 0 H v H') :
    MetFree l (nm m) (head1 (Jvm.Cond.code (nm m) (bt m) (ml P m) (rt P m) :: ws) (rm P m)) (fun a U => a = as.toArray ∧ Z.Warmed39 U.vm ∧ U.heap = h) (fun _ _ _ _ _ => True)
      (fun _ U o U' => ∃ v' L, o = .returned v' ∧ (v' = v ∧ Fr n0 L ∧ RelH C fn F Z n0 U'.heap H') ∧ FrameEnd U o U' L (rm P m).cells (rm P m).slots) := by
  refine MetFree.of_bodySF (plainFor_of_name hp) hisR ?_
  intro p e s mid args below meth c s₁ Bd hml0 hP hK
  obtain ⟨rfl, hZ, hh⟩ := hP
  have X0 : Stand p l e (rm P m) s mid as.toArray below meth c s₁ [] 0 0 := Stand.of_body Bd
  have e0 : s₁.heap = h := by rw [← hh, Bd.state]; rfl
  have hle : (ent P m as).length = ml P m := by simp [ent]; omega
  obtain ⟨T', locs', k', n', X1, r1, N1, hk1, hn1, hv1, st1⟩ := hS p e s mid as.toArray below meth c s₁ [] X0 Bd.exec hZ Bd.bytes hml0 (findClass_of_methodNamed Bd.named) (name_of_methodNamed Bd.named Bd.method).1 Bd.returns hle (by rw [e0]; exact r) (Fr.nil n0) (Nat.zero_le _) (Nat.zero_le _)
  obtain ⟨fs, hr, hrun, hended, hW, hsame⟩ := X1.leave (v := v) (fun q => hv1 (Bd.returns.symm.trans q))
  refine ⟨_, _, (Jvm.Free.XT.entry (Ls := (ent P m as).toArray) (by simp [ent])).trans (st1 fs hr), hrun, hended, v, locs', rfl, ⟨rfl, N1, r1⟩, ⟨_, rfl⟩, hW, hsame.mono hk1 hn1⟩
theorem ret_ok {m : Nat} {ins : Instr} {S : List Value} {v : Option Value} (h : ret P m ins S = some v) : (rt P m = none ∧ v = none ∧ ins = .return_ ∧ S = []) ∨ ∃ t w rest, rt P m = some t ∧ v = some w ∧ S = w :: rest ∧ narrow t w = w ∧
    ((ins = .ireturn ∧ (t = .int ∨ t = .boolean ∨ t = .byte ∨ t = .char ∨ t = .short) ∧ ∃ z, w = .int z) ∨ (ins = .lreturn ∧ t = .long ∧ ∃ z, w = .long z)) := by
  unfold ret at h
  split at h
  · split at h
    · rename_i g; cases h; exact Or.inl ⟨g.1, rfl, rfl, g.2⟩
    · cases h
  · split at h
    · rename_i z rest g; cases h; exact Or.inr ⟨.int, _, rest, g, rfl, rfl, rfl, Or.inl ⟨rfl, Or.inl rfl, z, rfl⟩⟩
    · rename_i z rest g
      split at h
      · rename_i g0
        cases h
        refine Or.inr ⟨.boolean, _, rest, g, rfl, rfl, ?_, Or.inl ⟨rfl, Or.inr (Or.inl rfl), z, rfl⟩⟩
        rcases g0 with rfl | rfl <;> rfl
      · cases h
    · cases h
  · split at h
    · rename_i z rest g; cases h; exact Or.inr ⟨.long, _, rest, g, rfl, rfl, rfl, Or.inr ⟨rfl, rfl, z, rfl⟩⟩
    · cases h
  · cases h
theorem cal_ok {m m' k n : Nat} {ins : Instr} {aux : Int} {S a r : List Value} {H : AH} (h : cal P m ins aux S k n H = some (m', a, r)) : aux = (m' : Int) ∧ kindOk ins (kd P m') = true ∧ may P m m' a r k n H = true ∧ S = a.reverse ++ r := by
  have h1 : cal1 P m ins aux S k n H = some (m', a, r) := by
    unfold cal at h
    split at h <;> first | exact h | (cases h)
  unfold cal1 at h1
  split at h1
  · rename_i g
    cases h1
    exact ⟨by omega, g.2.1, g.2.2, by rw [List.reverse_reverse]; exact (List.take_append_drop ..).symm⟩
  · cases h1
end Sound
end Jvm.JX

namespace Jvm.JX
open Sem ClassFile Op Lib Jvm.Stand Jvm.Free Jvm.LawKit Jvm.RoadKit
section Sound
variable {P : Prog} {tb : List Jvm.Cond} {C : String} {fn : Nat → String × String} {F : List Nat} {nsl : Nat} {nm : Nat → MethodName} {bt : Nat → ByteArray} {R : List Nat} {top : Nat}
variable {l : Launch} {Z : State} {a0 : Array Value} {n0 : Nat}
theorem may_ok {m m' k n : Nat} {a r : List Value} {H : AH} (h : may P m m' a r k n H = true) : (Sym.laidSlots a).length ≤ ml P m' ∧ a.length = na P m' ∧ (rm P m').frames + 1 ≤ (rm P m).frames ∧ cs r + (ml P m' + 11) + (rm P m').locals ≤ (rm P m).locals ∧
    (((rm P m').cells = 0 ∧ (rm P m').slots = 0) ∨ (k + (rm P m').cells ≤ (rm P m).cells ∧ n + (rm P m').slots ≤ (rm P m).slots)) ∧ (kd P m' = 0 ∨ rcv H a = true) := by
  simpa [may, and_assoc] using h
theorem rcv_ok {H : AH} {a : List Value} (h : rcv H a = true) : ∃ b as, a = .ref b :: as ∧ isO H b = true := by
  unfold rcv at h
  split at h
  · exact ⟨_, _, rfl, h⟩
  · cases h
set_option maxHeartbeats 1000000 in
theorem call_go {m pc len k n m' : Nat} {aux : Int} {L : List Slot} {S a r : List Value} {H H1 : AH} {ins : Instr} {v1 : Option Value} {p : Program} {e : Env} {s : State} {mid : MethodId} {args : Array Value} {below : List Frame} {meth : Method} {c : Code} {T : State} {locs : List Loc}
    (hG : Good P tb C fn F nsl nm bt R top) (hw : ∀ d ∈ tb, d.before a0 Z = true) (hm : m ∈ R) (hrow : P.1 m pc = some (ins, len, aux)) (hc : cal P m ins aux S k n H = some (m', a, r)) (hS : m' ∈ R → Says P C fn F nm bt l Z n0 m' 0 (ent P m' a) [] 0 0 H v1 H1)
    (X : Stand p l e (rm P m) s mid args below meth c T locs k n) (hx : p.tables.exec = Jvm.exec) (hZ : Z.Warmed39 s.vm)
    (hby : c.code = bt m) (hml : c.maxLocals = ml P m) (hown : s.vm.findClass (nm m).cls = some mid.cls) (hL : L.length = ml P m) (rr : RelH C fn F Z n0 T.heap H) (N : Fr n0 locs) (hk : k ≤ (rm P m).cells) (hn : n ≤ (rm P m).slots) :
    Go C fn F Z n0 p l e (rm P m) s mid args below meth c (T.setTop (mkF mid pc L.toArray S)) (ml P m) (pc + len, L, v1.toList ++ r, k + (rm P m').cells, n + (rm P m').slots, H1) := by
  obtain ⟨hd, hl, ho⟩ := (hG.2.2.2.2.1 m hm).2.2 pc ins len aux hrow
  replace hd := hb hby hd
  obtain ⟨e1, e2, e3, e4⟩ := cal_ok hc
  obtain ⟨y1, y2, y3, y4, y5, y6⟩ := may_ok e3
  have hnt : m' ≠ top := fun q => by
    have := hG.2.2.2.2.2.2 m hm pc ins len aux hrow (by rw [e1, q])
    rw [q, this] at e2; cases e2
  have y5' : k + (rm P m').cells ≤ (rm P m).cells ∧ n + (rm P m').slots ≤ (rm P m).slots := by rcases y5 with ⟨q1, q2⟩ | q <;> omega
  have hsize : (mkF mid pc L.toArray S).locals.size = c.maxLocals := by rw [hml, ← hL]; simp
  have hcs : 2 * (mkF mid pc L.toArray S).monitorRoom + (r.map fun v => v.category).sum ≤ cs r := by show 2 * 0 + _ ≤ _; exact Nat.le_of_eq (Nat.zero_add _)
  subst e1
  cases ins with
  | invokevirtual ix =>
    have hl : len = 3 := hl
    subst hl
    obtain ⟨mR, lnk⟩ := ho
    rw [Int.toNat_natCast] at mR lnk
    obtain ⟨c1, c2, ⟨ps, rr0, c3, c4⟩, c5, c6, c7, c8, c9⟩ := hG.2.2.2.2.2.1 m' mR hnt
    have hk0 : kd P m' ≠ 0 := fun q => by rw [q] at e2; cases e2
    obtain ⟨hcls, hinst⟩ := c6 hk0
    obtain ⟨b, as, rfl, hb⟩ := rcv_ok (y6.resolve_left hk0)
    obtain ⟨Eb, -⟩ := rr.obj hb
    have hlen : as.length = ps.length := by rw [if_neg hk0] at c4; simp only [List.length_cons] at y2; omega
    have eS : S = as.reverse ++ .ref b :: r := by rw [e4]; simp
    subst eS
    obtain ⟨pn, hy, -⟩ := hG.2.2.2.2.1 m' mR
    have BK := backOf (Q := fun v' h' L' => v' = v1 ∧ Fr n0 L' ∧ RelH C fn F Z n0 h' H1) (R := rm P m) (W := cs r) (p := p) (e := e) (below := below) (s := s) (args := args) (len := 3) (met_of [] pn y1 rr (hS mR)) hZ (hw _ c1) (hw _ c2) y3 y4
    have hkk : kd P m' = 1 ∨ kd P m' = 2 := by simpa [kindOk] using e2
    rcases hkk with hkk | hkk
    · obtain ⟨d1, d2⟩ := c7 hkk
      obtain ⟨cB, kB, q1, q2, q3⟩ := isOf (T := T) hZ rfl Eb
      obtain ⟨v, vm1, ⟨T1, L1, k1, n1⟩, -, X1, ⟨Lc, hQ, l1, z1, z2⟩, st⟩ := X.virtualBack hx (y := nm m') (z := nm m') hown (mvT hZ (hw _ lnk)) (mvT hZ (hw _ d1)) (notFace_of_selects (args := #[]) (mvT hZ (hw _ d2))) (mvT hZ (hw _ d2)) (mvT hZ (hw _ hinst)) hy BK q1 q3 (g := mkF mid pc L.toArray (as.reverse ++ .ref b :: r)) rfl hsize (Steps.refl _) (argsL := as) (rest := r) (lenOf c3 hlen) rfl hcs hd (fun _ _ => ⟨rfl, rfl, y5'.1, y5'.2⟩)
      dsimp only [Pt.U, Pt.locs, Pt.cells, Pt.slots] at X1 l1 z1 z2 st hQ
      subst l1 z1 z2
      obtain ⟨rfl, N1, r1⟩ := hQ
      exact ⟨T1, _, X1, r1, Fr.app N N1, y5'.1, y5'.2, hL, fun t g => st.trans g⟩
    · obtain ⟨ci, ki, i1, i2, i3, i4, -⟩ := Cond.instantiable_spec (show (Jvm.Cond.instantiable C nsl).before args s = true from mv hZ (hw _ hG.1))
      have hni : ki.isInterface = false := (Bool.or_eq_false_iff.mp i4).1
      have hpriv := Cond.privateMethod_at (mvP hZ (hw _ (c8 hkk)) (args := #[]))
      have hsel : (Jvm.Cond.selects (nm m').cls (nm m') (nm m')).before args s = true := selects_self_of_private (by rw [hcls]; exact i1) i2 hni hpriv (mvT hZ (hw _ hinst)) hy
      obtain ⟨cl, hcl, hcl'⟩ := Eb.cell
      obtain ⟨v, vm1, ⟨T1, L1, k1, n1⟩, -, X1, ⟨Lc, hQ, l1, z1, z2⟩, st⟩ := X.privateBack hx (y := nm m') hown (mvT hZ (hw _ lnk)) (mvT hZ (hw _ hinst)) hsel hpriv (mvT hZ (hw _ c1)) hy BK (g := mkF mid pc L.toArray (as.reverse ++ .ref b :: r)) rfl hsize (Steps.refl _) (a := b) hcl hcl' (argsL := as) (rest := r) (lenOf c3 hlen) rfl hcs hd (fun _ _ => ⟨rfl, rfl, y5'.1, y5'.2⟩)
      dsimp only [Pt.U, Pt.locs, Pt.cells, Pt.slots] at X1 l1 z1 z2 st hQ
      subst l1 z1 z2
      obtain ⟨rfl, N1, r1⟩ := hQ
      exact ⟨T1, _, X1, r1, Fr.app N N1, y5'.1, y5'.2, hL, fun t g => st.trans g⟩
  | invokestatic ix =>
    have hl : len = 3 := hl
    subst hl
    obtain ⟨mR, lnk⟩ := ho
    rw [Int.toNat_natCast] at mR lnk
    obtain ⟨c1, c2, ⟨ps, rr0, c3, c4⟩, c5, c6, c7, c8, c9⟩ := hG.2.2.2.2.2.1 m' mR hnt
    have hk0 : kd P m' = 0 := by simpa [kindOk] using e2
    have hlen : a.length = ps.length := by rw [if_pos hk0] at c4; omega
    subst e4
    obtain ⟨pn, hy, -⟩ := hG.2.2.2.2.1 m' mR
    have BK := backOf (Q := fun v' h' L' => v' = v1 ∧ Fr n0 L' ∧ RelH C fn F Z n0 h' H1) (R := rm P m) (W := cs r) (p := p) (e := e) (below := below) (s := s) (args := args) (len := 3) (met_of [] pn y1 rr (hS mR)) hZ (hw _ c1) (hw _ c2) y3 y4
    obtain ⟨v, vm1, ⟨T1, L1, k1, n1⟩, -, X1, ⟨Lc, hQ, l1, z1, z2⟩, st⟩ := Jvm.LawKit.callS X hx (y := nm m') hown (mvT hZ (hw _ lnk)) (mvT hZ (hw _ (c5 hk0))) (mvT hZ (hw _ c2)) (mvT hZ (hw _ c1)) hy BK (g := mkF mid pc L.toArray (a.reverse ++ r)) rfl hsize (argsL := a) (rest := r) (lenOf c3 hlen) rfl hcs hd (fun _ _ => ⟨rfl, rfl, y5'.1, y5'.2⟩)
    dsimp only [Pt.U, Pt.locs, Pt.cells, Pt.slots] at X1 l1 z1 z2 st hQ
    subst l1 z1 z2
    obtain ⟨rfl, N1, r1⟩ := hQ
    exact ⟨T1, _, X1, r1, Fr.app N N1, y5'.1, y5'.2, hL, fun t g => st t g⟩
  | invokespecial ix =>
    have hl : len = 3 := hl
    subst hl
    obtain ⟨mR, lnk⟩ := ho.2 (by omega)
    rw [Int.toNat_natCast] at mR lnk
    obtain ⟨c1, c2, ⟨ps, rr0, c3, c4⟩, c5, c6, c7, c8, c9⟩ := hG.2.2.2.2.2.1 m' mR hnt
    have hk3 : kd P m' = 3 := by simpa [kindOk] using e2
    have hk0 : kd P m' ≠ 0 := by omega
    obtain ⟨hcls, hinst⟩ := c6 hk0
    obtain ⟨hn3, hr3⟩ := c9 hk3
    obtain ⟨b, as, rfl, hb⟩ := rcv_ok (y6.resolve_left hk0)
    have hlen : as.length = ps.length := by rw [if_neg hk0] at c4; simp only [List.length_cons] at y2; omega
    have eS : S = as.reverse ++ .ref b :: r := by rw [e4]; simp
    subst eS
    obtain ⟨pn, hy, -⟩ := hG.2.2.2.2.1 m' mR
    have BK := backOf (Q := fun v' h' L' => v' = v1 ∧ Fr n0 L' ∧ RelH C fn F Z n0 h' H1) (R := rm P m) (W := cs r) (p := p) (e := e) (below := below) (s := s) (args := args) (len := 3) (met_of [] pn y1 rr (hS mR)) hZ (hw _ c1) (hw _ c2) y3 y4
    rw [hr3] at c1
    obtain ⟨v, vm1, ⟨T1, L1, k1, n1⟩, -, X1, ⟨Lc, hQ, l1, z1, z2⟩, st⟩ := X.specialBack hx (y := nm m') hn3 hown (mvT hZ (hw _ lnk)) (mvT hZ (hw _ hinst)) (mvT hZ (hw _ c1)) hy BK (g := mkF mid pc L.toArray (as.reverse ++ .ref b :: r)) rfl hsize (Steps.refl _) (a := b) (argsL := as) (rest := r) (lenOf c3 hlen) rfl hcs hd (fun _ _ => ⟨rfl, rfl, y5'.1, y5'.2⟩)
    dsimp only [Pt.U, Pt.locs, Pt.cells, Pt.slots] at X1 l1 z1 z2 st hQ
    subst l1 z1 z2
    obtain ⟨rfl, N1, r1⟩ := hQ
    exact ⟨T1, _, X1, r1, Fr.app N N1, y5'.1, y5'.2, hL, fun t g => st.trans g⟩
  | _ => cases e2
theorem sound (hG : Good P tb C fn F nsl nm bt R top) (hw : ∀ d ∈ tb, d.before a0 Z = true) : ∀ (f m : Nat), m ∈ R → ∀ (pc : Nat) (L : List Slot) (S : List Value) (k n : Nat) (H : AH) (v : Option Value) (H' : AH), run P f m pc L S k n H = some (v, H') → Says P C fn F nm bt l Z n0 m pc L S k n H v H' := by
  intro f
  induction f with
  | zero => intro m _ pc L S k n H v H' h; cases h
  | succ f ih =>
    intro m hm pc L S k n H v H' h p e s mid args below meth c T locs X hx hZ hby hml hown hnm hret hL r N hk hn
    rw [run_succ] at h
    cases hd : P.1 m pc with
    | none => rw [hd] at h; cases h
    | some d =>
      obtain ⟨ins, len, aux⟩ := d
      rw [hd] at h
      simp only at h
      cases hr : ret P m ins S with
      | some v1 =>
        rw [hr] at h
        cases h
        obtain ⟨hdec, hl, -⟩ := (hG.2.2.2.2.1 m hm).2.2 pc ins len aux hd
        replace hdec := hb hby hdec
        rcases ret_ok hr with ⟨q1, rfl, rfl, q0⟩ | ⟨t, w, rest, q1, rfl, rfl, q4, q5⟩
        · have hl : len = 1 := hl
          subst hl
          exact ⟨T, locs, k, n, X, r, N, hk, hn, fun _ => rfl, fun fs g => by subst q0; exact X.returnOut hx (hret.trans q1) hdec g⟩
        · refine ⟨T, locs, k, n, X, r, N, hk, hn, fun q => absurd (q1.symm.trans q) (by simp), fun fs g => ?_⟩
          have hl1 : len = 1 := by
            rcases q5 with ⟨rfl, -⟩ | ⟨rfl, -⟩ <;> exact hl
          subst hl1
          exact retOut X hx (hret.trans q1) q4 (q5.elim (fun u => Or.inl u) (fun u => Or.inr (Or.inl u))) hdec g
      | none =>
        rw [hr] at h
        simp only at h
        cases hc : cal P m ins aux S k n H with
        | some cc =>
          obtain ⟨m', a, rs⟩ := cc
          rw [hc] at h
          simp only at h
          cases hq : run P f m' 0 (ent P m' a) [] 0 0 H with
          | none => rw [hq] at h; cases h
          | some q =>
            obtain ⟨v1, H1⟩ := q
            rw [hq] at h
            obtain ⟨T1, locs1, X1, r1, N1, hk1, hn1, hL1, st⟩ := call_go hG hw hm hd hc (fun mR => ih m' mR _ _ _ _ _ _ _ _ hq) X hx hZ hby hml hown hL r N hk hn
            exact (ih m hm _ _ _ _ _ _ _ _ h p e s mid args below meth c T1 locs1 X1 hx hZ hby hml hown hnm hret hL1 r1 N1 hk1 hn1).back st
        | none =>
          rw [hc] at h
          simp only at h
          cases hs : stp P m ins len aux pc L S k n H with
          | none => rw [hs] at h; cases h
          | some q =>
            rw [hs] at h
            obtain ⟨T1, locs1, X1, r1, N1, hk1, hn1, hL1, st⟩ := stp_go hG hw hm hd hs X hx hZ hby hml hown hnm hL r N hk hn
            exact (ih m hm _ _ _ _ _ _ _ _ h p e s mid args below meth c T1 locs1 X1 hx hZ hby hml hown hnm hret hL1 r1 N1 hk1 hn1).back st
theorem law_met (hG : Good P tb C fn F nsl nm bt R top) (hw : ∀ d ∈ tb, d.before a0 Z = true) {as : List Value} {H : AH} {h : Heap} {Q : Option Value → AH → Prop} (ws : List Jvm.Cond) (ht : top ∈ R) (hl : (Sym.laidSlots as).length ≤ ml P top) (r : RelH C fn F Z n0 h H) (hC : Cl P top as H Q) :
    MetFree l (nm top) (head1 (Jvm.Cond.code (nm top) (bt top) (ml P top) (rt P top) :: ws) (rm P top)) (fun a U => a = as.toArray ∧ Z.Warmed39 U.vm ∧ U.heap = h) (fun _ _ _ _ _ => True)
      (fun _ U o U' => ∃ v' L, o = .returned v' ∧ (Fr n0 L ∧ ∃ H', Q v' H') ∧ FrameEnd U o U' L (rm P top).cells (rm P top).slots) := by
  obtain ⟨f, v, H', h1, h2⟩ := hC
  have hM := met_of (l := l) (h := h) ws (hG.2.2.2.2.1 top ht).1 hl r (sound hG hw f top ht _ _ _ _ _ _ _ _ h1)
  intro p e ha hc hk s m args below hf happ hP hK
  obtain ⟨n, o, q1, q2, q3, v', L, q4, ⟨q5, q6, q7⟩, q8⟩ := hM p e ha hc hk s m args below hf happ hP hK
  exact ⟨n, o, q1, q2, q3, v', L, q4, ⟨q6, H', by rw [q5]; exact h2⟩, q8⟩
end Sound
end Jvm.JX
namespace Jvm.JX
open Sem ClassFile Op Lib Jvm.Stand Jvm.Free Jvm.LawKit Jvm.RoadKit
theorem fa0 {α : Type} {p : α → Prop} : ∀ x ∈ ([] : List α), p x := fun _ q => nomatch q
theorem faS {α : Type} {p : α → Prop} {y : α} {L : List α} (q : p y) (r : ∀ x ∈ L, p x) : ∀ x ∈ y :: L, p x := fun x z => (List.mem_cons.mp z).elim (fun u => u ▸ q) (r x)
def rowChk (FL ML : List (Nat × Nat × Nat)) (KI KJ : List (Nat × Nat × Int)) (AT : List FieldType) (WF : List Nat) (nsl nw : Nat) (own : Nat) (ini : Bool) (ins : Instr) (aux : Int) : Bool :=
  match ins with
  | .getfield i => FL.contains (own, i, aux.toNat)
  | .putfield i => FL.contains (own, i, aux.toNat) && (WF.contains aux.toNat || ini)
  | .new i => decide (aux.toNat = nsl) && decide (own = 1) && decide (i = nw)
  | .newarray t => decide (newarray.typeOf t ∈ AT)
  | .ldc i => KI.contains (own, i, aux)
  | .ldc2_w i => KJ.contains (own, i, aux)
  | .invokevirtual i => ML.contains (own, i, aux.toNat)
  | .invokestatic i => ML.contains (own, i, aux.toNat)
  | .invokespecial i => if aux = -1 then decide (own = 0) && decide (i = 1) else ML.contains (own, i, aux.toNat)
  | _ => true
def rowOne (FL ML : List (Nat × Nat × Nat)) (KI KJ : List (Nat × Nat × Int)) (AT : List FieldType) (WF : List Nat) (nsl nw : Nat) (bt : Nat → ByteArray) (own : Nat → Nat) (ini : Nat → Bool) (m : Nat) (r : Row) : Bool :=
  decide (decode (bt m) r.1 = .ok (r.2.1, r.2.2.1)) && decide (r.2.2.1 = ilen2 r.2.1 r.2.2.1) && rowChk FL ML KI KJ AT WF nsl nw (own m) (ini m) r.2.1 r.2.2.2
theorem all_td {α : Type} {p : α → Bool} {l : List α} (c : Nat) (h1 : (l.take c).all p = true) (h2 : (l.drop c).all p = true) : l.all p = true := by
  rw [← List.take_append_drop c l, List.all_append, h1, h2]; rfl
theorem all_c {α : Type} {p : α → Bool} {l : List α} {a : α} (h1 : p a = true) (h2 : l.all p = true) : (a :: l).all p = true := by
  rw [List.all_cons, h1, h2]; rfl
theorem all_n {α : Type} {p : α → Bool} : ([] : List α).all p = true := rfl
theorem lookup_mem {L : List Row} {pc : Nat} {d : Instr × Nat × Int} (h : L.lookup pc = some d) : (pc, d) ∈ L := by
  induction L with
  | nil => cases h
  | cons x L ih =>
    obtain ⟨k, v⟩ := x
    rw [List.lookup_cons] at h
    by_cases e : pc = k
    · subst e; simp at h; subst h; exact List.mem_cons_self ..
    · have : (pc == k) = false := by simpa using e
      rw [this] at h; exact List.mem_cons_of_mem _ (ih h)
theorem row_ok {P : Prog} {tb : List Jvm.Cond} {C : String} {fn : Nat → String × String} {F : List Nat} {nsl nw : Nat} {nm : Nat → MethodName} {R : List Nat} {cn : Nat → String} {own : Nat → Nat} {ini : Nat → Bool}
    {FL ML : List (Nat × Nat × Nat)} {KI KJ : List (Nat × Nat × Int)} {AT : List FieldType} {WF : List Nat} {m : Nat} {ins : Instr} {aux : Int}
    (hown : (nm m).cls = cn (own m)) (hini : ini m = true → (nm m).cls = C ∧ (nm m).name = "<init>")
    (hFL : ∀ t ∈ FL, t.2.2 ∈ F ∧ Jvm.Cond.fieldLink (cn t.1) t.2.1 C (fn t.2.2).1 (fn t.2.2).2 ∈ tb) (hWF : ∀ k ∈ WF, Jvm.Cond.lays C C (fn k).1 (fn k).2 ∈ tb)
    (hML : ∀ t ∈ ML, t.2.2 ∈ R ∧ Jvm.Cond.methodLink (cn t.1) t.2.1 (nm t.2.2) ∈ tb) (hKI : ∀ t ∈ KI, Jvm.Cond.constant (cn t.1) t.2.1 (Int32.ofInt t.2.2) ∈ tb) (hKJ : ∀ t ∈ KJ, Jvm.Cond.constantLong (cn t.1) t.2.1 (Int64.ofInt t.2.2) ∈ tb)
    (hAT : ∀ t ∈ AT, Jvm.Cond.arrayClass t ∈ tb) (hN : Jvm.Cond.classLink (cn 1) nw C ∈ tb)
    (hO : Jvm.Cond.methodLink (cn 0) 1 Lib.objectInit ∈ tb ∧ Jvm.Cond.instanceMethod Lib.objectInit ∈ tb ∧ Jvm.Cond.code Lib.objectInit ⟨#[0xb1]⟩ 1 none ∈ tb)
    (h : rowChk FL ML KI KJ AT WF nsl nw (own m) (ini m) ins aux = true) : RowOk P tb C fn F nsl nm R m ins aux := by
  cases ins <;> first | trivial | skip
  case getfield i => have q := hFL _ (List.contains_iff_mem.mp h); exact ⟨q.1, by rw [hown]; exact q.2⟩
  case putfield i =>
    simp only [rowChk, Bool.and_eq_true, Bool.or_eq_true] at h
    have q := hFL _ (List.contains_iff_mem.mp h.1)
    exact ⟨q.1, by rw [hown]; exact q.2, h.2.imp (fun u => hWF _ (List.contains_iff_mem.mp u)) hini⟩
  case new i =>
    simp only [rowChk, Bool.and_eq_true, decide_eq_true_eq] at h
    obtain ⟨⟨h1, h2⟩, h3⟩ := h
    exact ⟨h1, by rw [hown, h2, h3]; exact hN⟩
  case newarray t => exact hAT _ (of_decide_eq_true h)
  case ldc i => have q := hKI _ (List.contains_iff_mem.mp h); show _ ∈ tb; rw [hown]; exact q
  case ldc2_w i => have q := hKJ _ (List.contains_iff_mem.mp h); show _ ∈ tb; rw [hown]; exact q
  case invokevirtual i => have q := hML _ (List.contains_iff_mem.mp h); exact ⟨q.1, by rw [hown]; exact q.2⟩
  case invokestatic i => have q := hML _ (List.contains_iff_mem.mp h); exact ⟨q.1, by rw [hown]; exact q.2⟩
  case invokespecial i =>
    simp only [rowChk] at h
    refine ⟨fun e => ?_, fun e => ?_⟩
    · rw [if_pos e] at h
      simp only [Bool.and_eq_true, decide_eq_true_eq] at h
      rw [hown, h.1, h.2]; exact hO
    · rw [if_neg (by omega)] at h
      have q := hML _ (List.contains_iff_mem.mp h)
      exact ⟨q.1, by rw [hown]; exact q.2⟩
theorem rel_H0 {C : String} {fn : Nat → String × String} {F : List Nat} {Z : State} (h : Heap) : RelH C fn F Z h.size h (H0 h.size) := ⟨rfl, Nat.le_refl _, fun a => ⟨fun q => (by cases q), trivial⟩⟩
end Jvm.JX

namespace Jvm.JX.Pj
open Jvm Jvm.ClassFile Sem Op Lib Jvm.JX
def r1 : List Row := [(0, .aload_n 0, 1, 0), (1, .invokespecial 1, 3, (-1)), (4, .aload_n 0, 1, 0), (5, .iconst 4, 1, 0), (6, .newarray .int, 2, 0), (8, .putfield 7, 3, 6), (11, .aload_n 0, 1, 0), (12, .iconst 4, 1, 0), (13, .newarray .int, 2, 0), (15, .putfield 13, 3, 7), (18, .aload_n 0, 1, 0), (19, .iconst 4, 1, 0), (20, .newarray .int, 2, 0), (22, .putfield 16, 3, 8), (25, .aload_n 0, 1, 0), (26, .iconst 4, 1, 0), (27, .newarray .int, 2, 0), (29, .putfield 19, 3, 9), (32, .aload_n 0, 1, 0), (33, .iconst 4, 1, 0), (34, .newarray .int, 2, 0), (36, .putfield 22, 3, 10), (39, .aload_n 0, 1, 0), (40, .bipush 32, 2, 0), (42, .newarray .int, 2, 0), (44, .putfield 25, 3, 11), (47, .aload_n 0, 1, 0), (48, .bipush 32, 2, 0), (50, .newarray .int, 2, 0), (52, .putfield 28, 3, 12), (55, .aload_n 0, 1, 0), (56, .bipush 32, 2, 0), (58, .newarray .int, 2, 0), (60, .putfield 31, 3, 13), (63, .aload_n 0, 1, 0), (64, .bipush 32, 2, 0), (66, .newarray .int, 2, 0), (68, .putfield 34, 3, 14), (71, .aload_n 0, 1, 0), (72, .bipush 32, 2, 0), (74, .newarray .int, 2, 0), (76, .putfield 37, 3, 15), (79, .aload_n 0, 1, 0), (80, .bipush 32, 2, 0), (82, .newarray .int, 2, 0), (84, .putfield 40, 3, 16), (87, .aload_n 0, 1, 0), (88, .bipush 32, 2, 0), (90, .newarray .int, 2, 0), (92, .putfield 43, 3, 17), (95, .aload_n 0, 1, 0), (96, .bipush 32, 2, 0), (98, .newarray .int, 2, 0), (100, .putfield 46, 3, 18), (103, .aload_n 0, 1, 0), (104, .aload_n 0, 1, 0), (105, .iload_n 1, 1, 0), (106, .iconst 1, 1, 0), (107, .iconst 4, 1, 0), (108, .invokevirtual 49, 3, 15), (111, .putfield 53, 3, 0), (114, .aload_n 0, 1, 0), (115, .aload_n 0, 1, 0), (116, .iload_n 2, 1, 0), (117, .iconst 2, 1, 0), (118, .bipush 16, 2, 0), (120, .invokevirtual 49, 3, 15), (123, .putfield 57, 3, 1), (126, .aload_n 0, 1, 0), (127, .aload_n 0, 1, 0), (128, .iload_n 3, 1, 0), (129, .iconst 1, 1, 0), (130, .bipush 8, 2, 0), (132, .invokevirtual 49, 3, 15), (135, .putfield 60, 3, 2), (138, .iconst 0, 1, 0), (139, .istore 4, 2, 0), (141, .iload 4, 2, 0), (143, .bipush 32, 2, 0), (145, .if_icmp .ge 17, 3, 0), (148, .aload_n 0, 1, 0), (149, .getfield 46, 3, 18), (152, .iload 4, 2, 0), (154, .iconst (-1), 1, 0), (155, .iastore, 1, 0), (156, .iinc 4 1, 3, 0), (159, .goto (-18), 3, 0), (162, .return_, 1, 0)]
def r2 : List Row := [(0, .aload_n 0, 1, 0), (1, .getfield 63, 3, 4), (4, .bipush 32, 2, 0), (6, .if_icmp .lt 5, 3, 0), (9, .iconst (-1), 1, 0), (10, .ireturn, 1, 0), (11, .iload_n 2, 1, 0), (12, .ifCond .lt 28, 3, 0), (15, .iload_n 2, 1, 0), (16, .aload_n 0, 1, 0), (17, .getfield 57, 3, 1), (20, .if_icmp .ge 20, 3, 0), (23, .iload_n 3, 1, 0), (24, .ifCond .lt 16, 3, 0), (27, .iload_n 3, 1, 0), (28, .aload_n 0, 1, 0), (29, .getfield 57, 3, 1), (32, .if_icmp .ge 8, 3, 0), (35, .iload_n 2, 1, 0), (36, .iload_n 3, 1, 0), (37, .if_icmp .ne 6, 3, 0), (40, .bipush (-2), 2, 0), (42, .ireturn, 1, 0), (43, .iload_n 1, 1, 0), (44, .aload_n 0, 1, 0), (45, .getfield 66, 3, 3), (48, .if_icmp .ge 6, 3, 0), (51, .bipush (-3), 2, 0), (53, .ireturn, 1, 0), (54, .aload_n 0, 1, 0), (55, .getfield 63, 3, 4), (58, .istore 4, 2, 0), (60, .aload_n 0, 1, 0), (61, .getfield 25, 3, 11), (64, .iload 4, 2, 0), (66, .iconst 0, 1, 0), (67, .iastore, 1, 0), (68, .aload_n 0, 1, 0), (69, .getfield 28, 3, 12), (72, .iload 4, 2, 0), (74, .iload_n 2, 1, 0), (75, .iastore, 1, 0), (76, .aload_n 0, 1, 0), (77, .getfield 31, 3, 13), (80, .iload 4, 2, 0), (82, .iload_n 3, 1, 0), (83, .iastore, 1, 0), (84, .aload_n 0, 1, 0), (85, .getfield 34, 3, 14), (88, .iload 4, 2, 0), (90, .iload_n 1, 1, 0), (91, .iastore, 1, 0), (92, .aload_n 0, 1, 0), (93, .getfield 37, 3, 15), (96, .iload 4, 2, 0), (98, .iconst (-1), 1, 0), (99, .iastore, 1, 0), (100, .aload_n 0, 1, 0), (101, .getfield 40, 3, 16), (104, .iload 4, 2, 0), (106, .iconst (-1), 1, 0), (107, .iastore, 1, 0), (108, .aload_n 0, 1, 0), (109, .getfield 43, 3, 17), (112, .iload 4, 2, 0), (114, .iconst (-1), 1, 0), (115, .iastore, 1, 0), (116, .aload_n 0, 1, 0), (117, .iload 4, 2, 0), (119, .iconst 1, 1, 0), (120, .iadd, 1, 0), (121, .putfield 63, 3, 4), (124, .iload 4, 2, 0), (126, .ireturn, 1, 0)]
def r4 : List Row := [(0, .aload_n 0, 1, 0), (1, .iload_n 1, 1, 0), (2, .iconst 1, 1, 0), (3, .bipush 32, 2, 0), (5, .invokevirtual 49, 3, 15), (8, .istore_n 2, 1, 0), (9, .aload_n 0, 1, 0), (10, .iconst 0, 1, 0), (11, .putfield 73, 3, 5), (14, .iconst 0, 1, 0), (15, .istore_n 3, 1, 0), (16, .iload_n 3, 1, 0), (17, .iload_n 2, 1, 0), (18, .if_icmp .ge 13, 3, 0), (21, .aload_n 0, 1, 0), (22, .invokevirtual 76, 3, 26), (25, .iinc 3 1, 3, 0), (28, .goto (-12), 3, 0), (31, .aload_n 0, 1, 0), (32, .getfield 73, 3, 5), (35, .ireturn, 1, 0)]
def r5 : List Row := [(0, .aload_n 0, 1, 0), (1, .getfield 66, 3, 3), (4, .ireturn, 1, 0)]
def r6 : List Row := [(0, .aload_n 0, 1, 0), (1, .getfield 63, 3, 4), (4, .ireturn, 1, 0)]
def r7 : List Row := [(0, .iconst 0, 1, 0), (1, .istore_n 1, 1, 0), (2, .iconst 0, 1, 0), (3, .istore_n 2, 1, 0), (4, .iload_n 2, 1, 0), (5, .aload_n 0, 1, 0), (6, .getfield 63, 3, 4), (9, .if_icmp .ge 22, 3, 0), (12, .aload_n 0, 1, 0), (13, .getfield 25, 3, 11), (16, .iload_n 2, 1, 0), (17, .iaload, 1, 0), (18, .iconst 3, 1, 0), (19, .if_icmp .ne 6, 3, 0), (22, .iinc 1 1, 3, 0), (25, .iinc 2 1, 3, 0), (28, .goto (-24), 3, 0), (31, .iload_n 1, 1, 0), (32, .ireturn, 1, 0)]
def r8 : List Row := [(0, .iload_n 1, 1, 0), (1, .ifCond .lt 11, 3, 0), (4, .iload_n 1, 1, 0), (5, .aload_n 0, 1, 0), (6, .getfield 53, 3, 0), (9, .if_icmp .lt 6, 3, 0), (12, .bipush (-99), 2, 0), (14, .ireturn, 1, 0), (15, .iload_n 2, 1, 0), (16, .ifCond .ne 10, 3, 0), (19, .aload_n 0, 1, 0), (20, .getfield 7, 3, 6), (23, .iload_n 1, 1, 0), (24, .iaload, 1, 0), (25, .ireturn, 1, 0), (26, .iload_n 2, 1, 0), (27, .iconst 1, 1, 0), (28, .if_icmp .ne 10, 3, 0), (31, .aload_n 0, 1, 0), (32, .getfield 13, 3, 7), (35, .iload_n 1, 1, 0), (36, .iaload, 1, 0), (37, .ireturn, 1, 0), (38, .iload_n 2, 1, 0), (39, .iconst 2, 1, 0), (40, .if_icmp .ne 10, 3, 0), (43, .aload_n 0, 1, 0), (44, .getfield 16, 3, 8), (47, .iload_n 1, 1, 0), (48, .iaload, 1, 0), (49, .ireturn, 1, 0), (50, .iload_n 2, 1, 0), (51, .iconst 3, 1, 0), (52, .if_icmp .ne 10, 3, 0), (55, .aload_n 0, 1, 0), (56, .getfield 19, 3, 9), (59, .iload_n 1, 1, 0), (60, .iaload, 1, 0), (61, .ireturn, 1, 0), (62, .iload_n 2, 1, 0), (63, .iconst 4, 1, 0), (64, .if_icmp .ne 10, 3, 0), (67, .aload_n 0, 1, 0), (68, .getfield 22, 3, 10), (71, .iload_n 1, 1, 0), (72, .iaload, 1, 0), (73, .ireturn, 1, 0), (74, .bipush (-99), 2, 0), (76, .ireturn, 1, 0)]
def r9 : List Row := [(0, .iload_n 1, 1, 0), (1, .ifCond .lt 11, 3, 0), (4, .iload_n 1, 1, 0), (5, .aload_n 0, 1, 0), (6, .getfield 63, 3, 4), (9, .if_icmp .lt 6, 3, 0), (12, .bipush (-99), 2, 0), (14, .ireturn, 1, 0), (15, .iload_n 2, 1, 0), (16, .ifCond .ne 10, 3, 0), (19, .aload_n 0, 1, 0), (20, .getfield 25, 3, 11), (23, .iload_n 1, 1, 0), (24, .iaload, 1, 0), (25, .ireturn, 1, 0), (26, .iload_n 2, 1, 0), (27, .iconst 1, 1, 0), (28, .if_icmp .ne 10, 3, 0), (31, .aload_n 0, 1, 0), (32, .getfield 28, 3, 12), (35, .iload_n 1, 1, 0), (36, .iaload, 1, 0), (37, .ireturn, 1, 0), (38, .iload_n 2, 1, 0), (39, .iconst 2, 1, 0), (40, .if_icmp .ne 10, 3, 0), (43, .aload_n 0, 1, 0), (44, .getfield 31, 3, 13), (47, .iload_n 1, 1, 0), (48, .iaload, 1, 0), (49, .ireturn, 1, 0), (50, .iload_n 2, 1, 0), (51, .iconst 3, 1, 0), (52, .if_icmp .ne 10, 3, 0), (55, .aload_n 0, 1, 0), (56, .getfield 34, 3, 14), (59, .iload_n 1, 1, 0), (60, .iaload, 1, 0), (61, .ireturn, 1, 0), (62, .iload_n 2, 1, 0), (63, .iconst 4, 1, 0), (64, .if_icmp .ne 10, 3, 0), (67, .aload_n 0, 1, 0), (68, .getfield 37, 3, 15), (71, .iload_n 1, 1, 0), (72, .iaload, 1, 0), (73, .ireturn, 1, 0), (74, .iload_n 2, 1, 0), (75, .iconst 5, 1, 0), (76, .if_icmp .ne 10, 3, 0), (79, .aload_n 0, 1, 0), (80, .getfield 40, 3, 16), (83, .iload_n 1, 1, 0), (84, .iaload, 1, 0), (85, .ireturn, 1, 0), (86, .iload_n 2, 1, 0), (87, .bipush 6, 2, 0), (89, .if_icmp .ne 10, 3, 0), (92, .aload_n 0, 1, 0), (93, .getfield 43, 3, 17), (96, .iload_n 1, 1, 0), (97, .iaload, 1, 0), (98, .ireturn, 1, 0), (99, .bipush (-99), 2, 0), (101, .ireturn, 1, 0)]
def r12 : List Row := [(0, .iconst 0, 1, 0), (1, .istore_n 1, 1, 0), (2, .iconst 0, 1, 0), (3, .istore_n 2, 1, 0), (4, .iload_n 2, 1, 0), (5, .aload_n 0, 1, 0), (6, .getfield 63, 3, 4), (9, .if_icmp .ge 35, 3, 0), (12, .aload_n 0, 1, 0), (13, .getfield 37, 3, 15), (16, .iload_n 2, 1, 0), (17, .iaload, 1, 0), (18, .iconst (-1), 1, 0), (19, .if_icmp .eq 19, 3, 0), (22, .iload_n 1, 1, 0), (23, .aload_n 0, 1, 0), (24, .getfield 37, 3, 15), (27, .iload_n 2, 1, 0), (28, .iaload, 1, 0), (29, .aload_n 0, 1, 0), (30, .getfield 34, 3, 14), (33, .iload_n 2, 1, 0), (34, .iaload, 1, 0), (35, .isub, 1, 0), (36, .iadd, 1, 0), (37, .istore_n 1, 1, 0), (38, .iinc 2 1, 3, 0), (41, .goto (-37), 3, 0), (44, .iload_n 1, 1, 0), (45, .ireturn, 1, 0)]
def r13 : List Row := [(0, .iconst 0, 1, 0), (1, .istore_n 1, 1, 0), (2, .iconst 0, 1, 0), (3, .istore_n 2, 1, 0), (4, .iload_n 2, 1, 0), (5, .aload_n 0, 1, 0), (6, .getfield 63, 3, 4), (9, .if_icmp .ge 35, 3, 0), (12, .aload_n 0, 1, 0), (13, .getfield 25, 3, 11), (16, .iload_n 2, 1, 0), (17, .iaload, 1, 0), (18, .iconst 3, 1, 0), (19, .if_icmp .ne 19, 3, 0), (22, .iload_n 1, 1, 0), (23, .aload_n 0, 1, 0), (24, .getfield 40, 3, 16), (27, .iload_n 2, 1, 0), (28, .iaload, 1, 0), (29, .aload_n 0, 1, 0), (30, .getfield 34, 3, 14), (33, .iload_n 2, 1, 0), (34, .iaload, 1, 0), (35, .isub, 1, 0), (36, .iadd, 1, 0), (37, .istore_n 1, 1, 0), (38, .iinc 2 1, 3, 0), (41, .goto (-37), 3, 0), (44, .iload_n 1, 1, 0), (45, .ireturn, 1, 0)]
def r14 : List Row := [(0, .iload_n 1, 1, 0), (1, .ifCond .eq 8, 3, 0), (4, .iload_n 1, 1, 0), (5, .iconst 1, 1, 0), (6, .if_icmp .ne 13, 3, 0), (9, .iload_n 2, 1, 0), (10, .ifCond .lt 9, 3, 0), (13, .iload_n 2, 1, 0), (14, .bipush 7, 2, 0), (16, .if_icmp .le 6, 3, 0), (19, .bipush (-99), 2, 0), (21, .ireturn, 1, 0), (22, .iconst 0, 1, 0), (23, .istore_n 3, 1, 0), (24, .iconst 0, 1, 0), (25, .istore 4, 2, 0), (27, .iload 4, 2, 0), (29, .aload_n 0, 1, 0), (30, .getfield 63, 3, 4), (33, .if_icmp .ge 104, 3, 0), (36, .iload_n 1, 1, 0), (37, .ifCond .ne 41, 3, 0), (40, .aload_n 0, 1, 0), (41, .getfield 37, 3, 15), (44, .iload 4, 2, 0), (46, .iaload, 1, 0), (47, .iconst (-1), 1, 0), (48, .if_icmp .eq 7, 3, 0), (51, .iconst 1, 1, 0), (52, .goto 4, 3, 0), (55, .iconst 0, 1, 0), (56, .istore 5, 2, 0), (58, .aload_n 0, 1, 0), (59, .getfield 37, 3, 15), (62, .iload 4, 2, 0), (64, .iaload, 1, 0), (65, .aload_n 0, 1, 0), (66, .getfield 34, 3, 14), (69, .iload 4, 2, 0), (71, .iaload, 1, 0), (72, .isub, 1, 0), (73, .istore 6, 2, 0), (75, .goto 38, 3, 0), (78, .aload_n 0, 1, 0), (79, .getfield 25, 3, 11), (82, .iload 4, 2, 0), (84, .iaload, 1, 0), (85, .iconst 3, 1, 0), (86, .if_icmp .ne 7, 3, 0), (89, .iconst 1, 1, 0), (90, .goto 4, 3, 0), (93, .iconst 0, 1, 0), (94, .istore 5, 2, 0), (96, .aload_n 0, 1, 0), (97, .getfield 40, 3, 16), (100, .iload 4, 2, 0), (102, .iaload, 1, 0), (103, .aload_n 0, 1, 0), (104, .getfield 34, 3, 14), (107, .iload 4, 2, 0), (109, .iaload, 1, 0), (110, .isub, 1, 0), (111, .istore 6, 2, 0), (113, .iload 5, 2, 0), (115, .ifCond .eq 16, 3, 0), (118, .aload_n 0, 1, 0), (119, .iload 6, 2, 0), (121, .invokevirtual 87, 3, 16), (124, .iload_n 2, 1, 0), (125, .if_icmp .ne 6, 3, 0), (128, .iinc 3 1, 3, 0), (131, .iinc 4 1, 3, 0), (134, .goto (-107), 3, 0), (137, .iload_n 3, 1, 0), (138, .ireturn, 1, 0)]
def r15 : List Row := [(0, .iload_n 1, 1, 0), (1, .iload_n 2, 1, 0), (2, .if_icmp .ge 5, 3, 0), (5, .iload_n 2, 1, 0), (6, .ireturn, 1, 0), (7, .iload_n 1, 1, 0), (8, .iload_n 3, 1, 0), (9, .if_icmp .le 5, 3, 0), (12, .iload_n 3, 1, 0), (13, .ireturn, 1, 0), (14, .iload_n 1, 1, 0), (15, .ireturn, 1, 0)]
def r16 : List Row := [(0, .iload_n 1, 1, 0), (1, .bipush 28, 2, 0), (3, .if_icmp .ge 7, 3, 0), (6, .iload_n 1, 1, 0), (7, .iconst 4, 1, 0), (8, .idiv, 1, 0), (9, .ireturn, 1, 0), (10, .bipush 7, 2, 0), (12, .ireturn, 1, 0)]
def r17 : List Row := [(0, .aload_n 0, 1, 0), (1, .getfield 31, 3, 13), (4, .iload_n 1, 1, 0), (5, .iaload, 1, 0), (6, .aload_n 0, 1, 0), (7, .getfield 28, 3, 12), (10, .iload_n 1, 1, 0), (11, .iaload, 1, 0), (12, .if_icmp .le 7, 3, 0), (15, .iconst 1, 1, 0), (16, .goto 4, 3, 0), (19, .iconst (-1), 1, 0), (20, .ireturn, 1, 0)]
def r18 : List Row := [(0, .iload_n 1, 1, 0), (1, .iconst 2, 1, 0), (2, .imul, 1, 0), (3, .iload_n 2, 1, 0), (4, .iconst 1, 1, 0), (5, .if_icmp .ne 7, 3, 0), (8, .iconst 0, 1, 0), (9, .goto 4, 3, 0), (12, .iconst 1, 1, 0), (13, .iadd, 1, 0), (14, .ireturn, 1, 0)]
def r19 : List Row := [(0, .iconst 0, 1, 0), (1, .istore_n 3, 1, 0), (2, .iload_n 3, 1, 0), (3, .aload_n 0, 1, 0), (4, .getfield 63, 3, 4), (7, .if_icmp .ge 40, 3, 0), (10, .aload_n 0, 1, 0), (11, .getfield 25, 3, 11), (14, .iload_n 3, 1, 0), (15, .iaload, 1, 0), (16, .iconst 1, 1, 0), (17, .if_icmp .ne 24, 3, 0), (20, .aload_n 0, 1, 0), (21, .getfield 28, 3, 12), (24, .iload_n 3, 1, 0), (25, .iaload, 1, 0), (26, .iload_n 1, 1, 0), (27, .if_icmp .ne 14, 3, 0), (30, .aload_n 0, 1, 0), (31, .iload_n 3, 1, 0), (32, .invokevirtual 91, 3, 17), (35, .iload_n 2, 1, 0), (36, .if_icmp .ne 5, 3, 0), (39, .iconst 1, 1, 0), (40, .ireturn, 1, 0), (41, .iinc 3 1, 3, 0), (44, .goto (-42), 3, 0), (47, .iconst 0, 1, 0), (48, .ireturn, 1, 0)]
def r20 : List Row := [(0, .iload_n 1, 1, 0), (1, .ifCond .lt 11, 3, 0), (4, .iload_n 1, 1, 0), (5, .aload_n 0, 1, 0), (6, .getfield 57, 3, 1), (9, .if_icmp .lt 5, 3, 0), (12, .iconst 0, 1, 0), (13, .ireturn, 1, 0), (14, .aload_n 0, 1, 0), (15, .iload_n 1, 1, 0), (16, .iload_n 2, 1, 0), (17, .invokevirtual 79, 3, 19), (20, .ifCond .ne 5, 3, 0), (23, .iconst 0, 1, 0), (24, .ireturn, 1, 0), (25, .aload_n 0, 1, 0), (26, .getfield 46, 3, 18), (29, .aload_n 0, 1, 0), (30, .iload_n 1, 1, 0), (31, .iload_n 2, 1, 0), (32, .invokevirtual 83, 3, 18), (35, .iaload, 1, 0), (36, .iload_n 3, 1, 0), (37, .if_icmp .ne 7, 3, 0), (40, .iconst 1, 1, 0), (41, .goto 4, 3, 0), (44, .iconst 0, 1, 0), (45, .ireturn, 1, 0)]
def r21 : List Row := [(0, .iconst 0, 1, 0), (1, .istore_n 3, 1, 0), (2, .iload_n 3, 1, 0), (3, .aload_n 0, 1, 0), (4, .getfield 63, 3, 4), (7, .if_icmp .ge 41, 3, 0), (10, .aload_n 0, 1, 0), (11, .getfield 25, 3, 11), (14, .iload_n 3, 1, 0), (15, .iaload, 1, 0), (16, .iconst 2, 1, 0), (17, .if_icmp .ne 25, 3, 0), (20, .aload_n 0, 1, 0), (21, .getfield 43, 3, 17), (24, .iload_n 3, 1, 0), (25, .iaload, 1, 0), (26, .iload_n 1, 1, 0), (27, .if_icmp .ne 15, 3, 0), (30, .aload_n 0, 1, 0), (31, .getfield 31, 3, 13), (34, .iload_n 3, 1, 0), (35, .iaload, 1, 0), (36, .iload_n 2, 1, 0), (37, .if_icmp .ne 5, 3, 0), (40, .iconst 1, 1, 0), (41, .ireturn, 1, 0), (42, .iinc 3 1, 3, 0), (45, .goto (-43), 3, 0), (48, .iconst 0, 1, 0), (49, .ireturn, 1, 0)]
def r22 : List Row := [(0, .aload_n 0, 1, 0), (1, .iload_n 1, 1, 0), (2, .iload_n 2, 1, 0), (3, .invokevirtual 94, 3, 21), (6, .ifCond .ne 23, 3, 0), (9, .aload_n 0, 1, 0), (10, .iload_n 2, 1, 0), (11, .iconst 1, 1, 0), (12, .iload_n 1, 1, 0), (13, .invokevirtual 97, 3, 20), (16, .ifCond .ne 13, 3, 0), (19, .aload_n 0, 1, 0), (20, .iload_n 2, 1, 0), (21, .iconst (-1), 1, 0), (22, .iload_n 1, 1, 0), (23, .invokevirtual 97, 3, 20), (26, .ifCond .eq 7, 3, 0), (29, .iconst 1, 1, 0), (30, .goto 4, 3, 0), (33, .iconst 0, 1, 0), (34, .ireturn, 1, 0)]
def r23 : List Row := [(0, .aload_n 0, 1, 0), (1, .getfield 7, 3, 6), (4, .iload_n 1, 1, 0), (5, .iaload, 1, 0), (6, .istore_n 3, 1, 0), (7, .iconst 0, 1, 0), (8, .istore 4, 2, 0), (10, .iload 4, 2, 0), (12, .aload_n 0, 1, 0), (13, .getfield 57, 3, 1), (16, .if_icmp .ge 55, 3, 0), (19, .iload_n 2, 1, 0), (20, .iconst 1, 1, 0), (21, .if_icmp .ne 9, 3, 0), (24, .iload 4, 2, 0), (26, .iload_n 3, 1, 0), (27, .if_icmp .gt 14, 3, 0), (30, .iload_n 2, 1, 0), (31, .iconst (-1), 1, 0), (32, .if_icmp .ne 13, 3, 0), (35, .iload 4, 2, 0), (37, .iload_n 3, 1, 0), (38, .if_icmp .ge 7, 3, 0), (41, .iconst 1, 1, 0), (42, .goto 4, 3, 0), (45, .iconst 0, 1, 0), (46, .istore 5, 2, 0), (48, .iload 5, 2, 0), (50, .ifCond .eq 15, 3, 0), (53, .aload_n 0, 1, 0), (54, .iload_n 1, 1, 0), (55, .iload 4, 2, 0), (57, .invokevirtual 101, 3, 22), (60, .ifCond .eq 5, 3, 0), (63, .iconst 1, 1, 0), (64, .ireturn, 1, 0), (65, .iinc 4 1, 3, 0), (68, .goto (-58), 3, 0), (71, .iconst 0, 1, 0), (72, .ireturn, 1, 0)]
def r24 : List Row := [(0, .aload_n 0, 1, 0), (1, .getfield 19, 3, 9), (4, .iload_n 1, 1, 0), (5, .iaload, 1, 0), (6, .aload_n 0, 1, 0), (7, .getfield 60, 3, 2), (10, .if_icmp .ge 7, 3, 0), (13, .iconst 1, 1, 0), (14, .goto 4, 3, 0), (17, .iconst 0, 1, 0), (18, .ireturn, 1, 0)]
def r25 : List Row := [(0, .aload_n 0, 1, 0), (1, .getfield 16, 3, 8), (4, .iload_n 1, 1, 0), (5, .iaload, 1, 0), (6, .ifCond .eq 12, 3, 0), (9, .aload_n 0, 1, 0), (10, .getfield 16, 3, 8), (13, .iload_n 1, 1, 0), (14, .iaload, 1, 0), (15, .goto 4, 3, 0), (18, .iconst 1, 1, 0), (19, .istore_n 2, 1, 0), (20, .aload_n 0, 1, 0), (21, .getfield 7, 3, 6), (24, .iload_n 1, 1, 0), (25, .iaload, 1, 0), (26, .istore_n 3, 1, 0), (27, .aload_n 0, 1, 0), (28, .iload_n 1, 1, 0), (29, .iload_n 2, 1, 0), (30, .invokevirtual 104, 3, 23), (33, .ifCond .ne 12, 3, 0), (36, .aload_n 0, 1, 0), (37, .iload_n 3, 1, 0), (38, .iload_n 2, 1, 0), (39, .invokevirtual 79, 3, 19), (42, .ifCond .eq 5, 3, 0), (45, .iload_n 2, 1, 0), (46, .ireturn, 1, 0), (47, .aload_n 0, 1, 0), (48, .iload_n 1, 1, 0), (49, .iload_n 2, 1, 0), (50, .ineg, 1, 0), (51, .invokevirtual 104, 3, 23), (54, .ifCond .ne 13, 3, 0), (57, .aload_n 0, 1, 0), (58, .iload_n 3, 1, 0), (59, .iload_n 2, 1, 0), (60, .ineg, 1, 0), (61, .invokevirtual 79, 3, 19), (64, .ifCond .eq 6, 3, 0), (67, .iload_n 2, 1, 0), (68, .ineg, 1, 0), (69, .ireturn, 1, 0), (70, .iconst 0, 1, 0), (71, .ireturn, 1, 0)]
def r26 : List Row := [(0, .aload_n 0, 1, 0), (1, .invokevirtual 107, 3, 27), (4, .aload_n 0, 1, 0), (5, .invokevirtual 110, 3, 28), (8, .iconst 0, 1, 0), (9, .istore_n 1, 1, 0), (10, .iload_n 1, 1, 0), (11, .aload_n 0, 1, 0), (12, .getfield 53, 3, 0), (15, .if_icmp .ge 14, 3, 0), (18, .aload_n 0, 1, 0), (19, .iload_n 1, 1, 0), (20, .invokevirtual 113, 3, 31), (23, .iinc 1 1, 3, 0), (26, .goto (-16), 3, 0), (29, .aload_n 0, 1, 0), (30, .aload_n 0, 1, 0), (31, .getfield 66, 3, 3), (34, .iconst 1, 1, 0), (35, .iadd, 1, 0), (36, .putfield 66, 3, 3), (39, .return_, 1, 0)]
def r27 : List Row := [(0, .iconst 0, 1, 0), (1, .istore_n 1, 1, 0), (2, .iload_n 1, 1, 0), (3, .aload_n 0, 1, 0), (4, .getfield 63, 3, 4), (7, .if_icmp .ge 38, 3, 0), (10, .aload_n 0, 1, 0), (11, .getfield 25, 3, 11), (14, .iload_n 1, 1, 0), (15, .iaload, 1, 0), (16, .ifCond .ne 23, 3, 0), (19, .aload_n 0, 1, 0), (20, .getfield 34, 3, 14), (23, .iload_n 1, 1, 0), (24, .iaload, 1, 0), (25, .aload_n 0, 1, 0), (26, .getfield 66, 3, 3), (29, .if_icmp .ne 10, 3, 0), (32, .aload_n 0, 1, 0), (33, .getfield 25, 3, 11), (36, .iload_n 1, 1, 0), (37, .iconst 1, 1, 0), (38, .iastore, 1, 0), (39, .iinc 1 1, 3, 0), (42, .goto (-40), 3, 0), (45, .return_, 1, 0)]
def r28 : List Row := [(0, .iconst 0, 1, 0), (1, .istore_n 1, 1, 0), (2, .iload_n 1, 1, 0), (3, .aload_n 0, 1, 0), (4, .getfield 57, 3, 1), (7, .if_icmp .ge 38, 3, 0), (10, .iconst 0, 1, 0), (11, .istore_n 2, 1, 0), (12, .iload_n 2, 1, 0), (13, .iconst 2, 1, 0), (14, .if_icmp .ge 25, 3, 0), (17, .iload_n 2, 1, 0), (18, .ifCond .ne 7, 3, 0), (21, .iconst 1, 1, 0), (22, .goto 4, 3, 0), (25, .iconst (-1), 1, 0), (26, .istore_n 3, 1, 0), (27, .aload_n 0, 1, 0), (28, .iload_n 1, 1, 0), (29, .iload_n 3, 1, 0), (30, .invokevirtual 117, 3, 29), (33, .iinc 2 1, 3, 0), (36, .goto (-24), 3, 0), (39, .iinc 1 1, 3, 0), (42, .goto (-40), 3, 0), (45, .return_, 1, 0)]
def r29 : List Row := [(0, .aload_n 0, 1, 0), (1, .iload_n 1, 1, 0), (2, .iload_n 2, 1, 0), (3, .invokevirtual 83, 3, 18), (6, .istore_n 3, 1, 0), (7, .aload_n 0, 1, 0), (8, .iload_n 1, 1, 0), (9, .iload_n 2, 1, 0), (10, .invokevirtual 79, 3, 19), (13, .ifCond .ne 11, 3, 0), (16, .aload_n 0, 1, 0), (17, .getfield 46, 3, 18), (20, .iload_n 3, 1, 0), (21, .iconst (-1), 1, 0), (22, .iastore, 1, 0), (23, .return_, 1, 0), (24, .iconst (-1), 1, 0), (25, .istore 4, 2, 0), (27, .iconst 0, 1, 0), (28, .istore 5, 2, 0), (30, .iconst 0, 1, 0), (31, .istore 6, 2, 0), (33, .iload 6, 2, 0), (35, .aload_n 0, 1, 0), (36, .getfield 53, 3, 0), (39, .if_icmp .ge 40, 3, 0), (42, .aload_n 0, 1, 0), (43, .iload 6, 2, 0), (45, .iload_n 1, 1, 0), (46, .iload_n 2, 1, 0), (47, .invokevirtual 121, 3, 30), (50, .istore 7, 2, 0), (52, .iload 4, 2, 0), (54, .iconst (-1), 1, 0), (55, .if_icmp .eq 10, 3, 0), (58, .iload 7, 2, 0), (60, .iload 5, 2, 0), (62, .if_icmp .ge 11, 3, 0), (65, .iload 6, 2, 0), (67, .istore 4, 2, 0), (69, .iload 7, 2, 0), (71, .istore 5, 2, 0), (73, .iinc 6 1, 3, 0), (76, .goto (-43), 3, 0), (79, .aload_n 0, 1, 0), (80, .getfield 46, 3, 18), (83, .iload_n 3, 1, 0), (84, .iaload, 1, 0), (85, .istore 6, 2, 0), (87, .iload 6, 2, 0), (89, .ifCond .lt 33, 3, 0), (92, .iload 6, 2, 0), (94, .aload_n 0, 1, 0), (95, .getfield 53, 3, 0), (98, .if_icmp .ge 24, 3, 0), (101, .aload_n 0, 1, 0), (102, .iload 6, 2, 0), (104, .iload_n 1, 1, 0), (105, .iload_n 2, 1, 0), (106, .invokevirtual 121, 3, 30), (109, .istore 7, 2, 0), (111, .iload 7, 2, 0), (113, .iload 5, 2, 0), (115, .if_icmp .ne 7, 3, 0), (118, .iload 6, 2, 0), (120, .istore 4, 2, 0), (122, .aload_n 0, 1, 0), (123, .getfield 46, 3, 18), (126, .iload_n 3, 1, 0), (127, .iload 4, 2, 0), (129, .iastore, 1, 0), (130, .return_, 1, 0)]
def r30 : List Row := [(0, .aload_n 0, 1, 0), (1, .getfield 7, 3, 6), (4, .iload_n 1, 1, 0), (5, .iaload, 1, 0), (6, .istore 4, 2, 0), (8, .aload_n 0, 1, 0), (9, .getfield 16, 3, 8), (12, .iload_n 1, 1, 0), (13, .iaload, 1, 0), (14, .istore 5, 2, 0), (16, .aload_n 0, 1, 0), (17, .getfield 13, 3, 7), (20, .iload_n 1, 1, 0), (21, .iaload, 1, 0), (22, .iconst 3, 1, 0), (23, .if_icmp .ne 11, 3, 0), (26, .iload 4, 2, 0), (28, .iload 5, 2, 0), (30, .iadd, 1, 0), (31, .goto 5, 3, 0), (34, .iload 4, 2, 0), (36, .istore 6, 2, 0), (38, .aload_n 0, 1, 0), (39, .getfield 57, 3, 1), (42, .iconst 1, 1, 0), (43, .isub, 1, 0), (44, .istore 7, 2, 0), (46, .iload 5, 2, 0), (48, .iconst 1, 1, 0), (49, .if_icmp .ne 58, 3, 0), (52, .iload_n 3, 1, 0), (53, .iconst 1, 1, 0), (54, .if_icmp .ne 18, 3, 0), (57, .iload_n 2, 1, 0), (58, .iload 6, 2, 0), (60, .if_icmp .lt 12, 3, 0), (63, .iload_n 2, 1, 0), (64, .iload 6, 2, 0), (66, .isub, 1, 0), (67, .istore 8, 2, 0), (69, .goto 112, 3, 0), (72, .iload_n 3, 1, 0), (73, .iconst (-1), 1, 0), (74, .if_icmp .ne 18, 3, 0), (77, .iload 7, 2, 0), (79, .iload 6, 2, 0), (81, .isub, 1, 0), (82, .iload 7, 2, 0), (84, .iload_n 2, 1, 0), (85, .isub, 1, 0), (86, .iadd, 1, 0), (87, .istore 8, 2, 0), (89, .goto 92, 3, 0), (92, .iload 7, 2, 0), (94, .iload 6, 2, 0), (96, .isub, 1, 0), (97, .iload 7, 2, 0), (99, .iadd, 1, 0), (100, .iload_n 2, 1, 0), (101, .iadd, 1, 0), (102, .istore 8, 2, 0), (104, .goto 77, 3, 0), (107, .iload 5, 2, 0), (109, .iconst (-1), 1, 0), (110, .if_icmp .ne 52, 3, 0), (113, .iload_n 3, 1, 0), (114, .iconst (-1), 1, 0), (115, .if_icmp .ne 18, 3, 0), (118, .iload_n 2, 1, 0), (119, .iload 6, 2, 0), (121, .if_icmp .gt 12, 3, 0), (124, .iload 6, 2, 0), (126, .iload_n 2, 1, 0), (127, .isub, 1, 0), (128, .istore 8, 2, 0), (130, .goto 51, 3, 0), (133, .iload_n 3, 1, 0), (134, .iconst 1, 1, 0), (135, .if_icmp .ne 12, 3, 0), (138, .iload 6, 2, 0), (140, .iload_n 2, 1, 0), (141, .iadd, 1, 0), (142, .istore 8, 2, 0), (144, .goto 37, 3, 0), (147, .iload 6, 2, 0), (149, .iload 7, 2, 0), (151, .iadd, 1, 0), (152, .iload 7, 2, 0), (154, .iload_n 2, 1, 0), (155, .isub, 1, 0), (156, .iadd, 1, 0), (157, .istore 8, 2, 0), (159, .goto 22, 3, 0), (162, .iload_n 2, 1, 0), (163, .iload 6, 2, 0), (165, .if_icmp .lt 10, 3, 0), (168, .iload_n 2, 1, 0), (169, .iload 6, 2, 0), (171, .isub, 1, 0), (172, .goto 7, 3, 0), (175, .iload 6, 2, 0), (177, .iload_n 2, 1, 0), (178, .isub, 1, 0), (179, .istore 8, 2, 0), (181, .iconst 2, 1, 0), (182, .iload 8, 2, 0), (184, .imul, 1, 0), (185, .istore 9, 2, 0), (187, .aload_n 0, 1, 0), (188, .getfield 19, 3, 9), (191, .iload_n 1, 1, 0), (192, .iaload, 1, 0), (193, .aload_n 0, 1, 0), (194, .getfield 60, 3, 2), (197, .if_icmp .ne 6, 3, 0), (200, .iinc 9 64, 3, 0), (203, .iload 9, 2, 0), (205, .ireturn, 1, 0)]
def r31 : List Row := [(0, .aload_n 0, 1, 0), (1, .getfield 13, 3, 7), (4, .iload_n 1, 1, 0), (5, .iaload, 1, 0), (6, .istore_n 2, 1, 0), (7, .iload_n 2, 1, 0), (8, .ifCond .ne 11, 3, 0), (11, .aload_n 0, 1, 0), (12, .iload_n 1, 1, 0), (13, .invokevirtual 124, 3, 32), (16, .goto 39, 3, 0), (19, .iload_n 2, 1, 0), (20, .iconst 3, 1, 0), (21, .if_icmp .ne 11, 3, 0), (24, .aload_n 0, 1, 0), (25, .iload_n 1, 1, 0), (26, .invokevirtual 127, 3, 33), (29, .goto 26, 3, 0), (32, .iload_n 2, 1, 0), (33, .iconst 1, 1, 0), (34, .if_icmp .ne 11, 3, 0), (37, .aload_n 0, 1, 0), (38, .iload_n 1, 1, 0), (39, .invokevirtual 130, 3, 34), (42, .goto 13, 3, 0), (45, .iload_n 2, 1, 0), (46, .iconst 2, 1, 0), (47, .if_icmp .ne 8, 3, 0), (50, .aload_n 0, 1, 0), (51, .iload_n 1, 1, 0), (52, .invokevirtual 133, 3, 37), (55, .return_, 1, 0)]
def r32 : List Row := [(0, .aload_n 0, 1, 0), (1, .iload_n 1, 1, 0), (2, .invokevirtual 136, 3, 25), (5, .istore_n 2, 1, 0), (6, .aload_n 0, 1, 0), (7, .getfield 16, 3, 8), (10, .iload_n 1, 1, 0), (11, .iload_n 2, 1, 0), (12, .iastore, 1, 0), (13, .iload_n 2, 1, 0), (14, .ifCond .ne 4, 3, 0), (17, .return_, 1, 0), (18, .aload_n 0, 1, 0), (19, .iload_n 1, 1, 0), (20, .invokevirtual 139, 3, 24), (23, .ifCond .eq 34, 3, 0), (26, .aload_n 0, 1, 0), (27, .aload_n 0, 1, 0), (28, .getfield 7, 3, 6), (31, .iload_n 1, 1, 0), (32, .iaload, 1, 0), (33, .iload_n 2, 1, 0), (34, .invokevirtual 79, 3, 19), (37, .ifCond .eq 20, 3, 0), (40, .aload_n 0, 1, 0), (41, .getfield 13, 3, 7), (44, .iload_n 1, 1, 0), (45, .iconst 1, 1, 0), (46, .iastore, 1, 0), (47, .aload_n 0, 1, 0), (48, .getfield 22, 3, 10), (51, .iload_n 1, 1, 0), (52, .iconst 3, 1, 0), (53, .iastore, 1, 0), (54, .goto 26, 3, 0), (57, .aload_n 0, 1, 0), (58, .iload_n 1, 1, 0), (59, .iload_n 2, 1, 0), (60, .invokevirtual 104, 3, 23), (63, .ifCond .eq 17, 3, 0), (66, .aload_n 0, 1, 0), (67, .getfield 13, 3, 7), (70, .iload_n 1, 1, 0), (71, .iconst 3, 1, 0), (72, .iastore, 1, 0), (73, .aload_n 0, 1, 0), (74, .getfield 22, 3, 10), (77, .iload_n 1, 1, 0), (78, .iconst 3, 1, 0), (79, .iastore, 1, 0), (80, .return_, 1, 0)]
def r33 : List Row := [(0, .aload_n 0, 1, 0), (1, .getfield 22, 3, 10), (4, .iload_n 1, 1, 0), (5, .aload_n 0, 1, 0), (6, .getfield 22, 3, 10), (9, .iload_n 1, 1, 0), (10, .iaload, 1, 0), (11, .iconst 1, 1, 0), (12, .isub, 1, 0), (13, .iastore, 1, 0), (14, .aload_n 0, 1, 0), (15, .getfield 22, 3, 10), (18, .iload_n 1, 1, 0), (19, .iaload, 1, 0), (20, .ifCond .le 4, 3, 0), (23, .return_, 1, 0), (24, .aload_n 0, 1, 0), (25, .getfield 16, 3, 8), (28, .iload_n 1, 1, 0), (29, .iaload, 1, 0), (30, .istore_n 2, 1, 0), (31, .aload_n 0, 1, 0), (32, .getfield 7, 3, 6), (35, .iload_n 1, 1, 0), (36, .iaload, 1, 0), (37, .iload_n 2, 1, 0), (38, .iadd, 1, 0), (39, .istore_n 3, 1, 0), (40, .aload_n 0, 1, 0), (41, .getfield 7, 3, 6), (44, .iload_n 1, 1, 0), (45, .iload_n 3, 1, 0), (46, .iastore, 1, 0), (47, .aload_n 0, 1, 0), (48, .iload_n 1, 1, 0), (49, .iload_n 2, 1, 0), (50, .invokevirtual 104, 3, 23), (53, .istore 4, 2, 0), (55, .aload_n 0, 1, 0), (56, .iload_n 1, 1, 0), (57, .iload_n 3, 1, 0), (58, .invokevirtual 94, 3, 21), (61, .ifCond .ne 37, 3, 0), (64, .aload_n 0, 1, 0), (65, .iload_n 1, 1, 0), (66, .invokevirtual 139, 3, 24), (69, .ifCond .eq 13, 3, 0), (72, .aload_n 0, 1, 0), (73, .iload_n 3, 1, 0), (74, .iload_n 2, 1, 0), (75, .iload_n 1, 1, 0), (76, .invokevirtual 97, 3, 20), (79, .ifCond .ne 19, 3, 0), (82, .iload 4, 2, 0), (84, .ifCond .ne 18, 3, 0), (87, .aload_n 0, 1, 0), (88, .iload_n 3, 1, 0), (89, .iload_n 2, 1, 0), (90, .ineg, 1, 0), (91, .iload_n 1, 1, 0), (92, .invokevirtual 97, 3, 20), (95, .ifCond .eq 7, 3, 0), (98, .iconst 1, 1, 0), (99, .goto 4, 3, 0), (102, .iconst 0, 1, 0), (103, .istore 5, 2, 0), (105, .iload 5, 2, 0), (107, .ifCond .eq 20, 3, 0), (110, .aload_n 0, 1, 0), (111, .getfield 13, 3, 7), (114, .iload_n 1, 1, 0), (115, .iconst 1, 1, 0), (116, .iastore, 1, 0), (117, .aload_n 0, 1, 0), (118, .getfield 22, 3, 10), (121, .iload_n 1, 1, 0), (122, .iconst 3, 1, 0), (123, .iastore, 1, 0), (124, .goto 32, 3, 0), (127, .iload 4, 2, 0), (129, .ifCond .eq 13, 3, 0), (132, .aload_n 0, 1, 0), (133, .getfield 22, 3, 10), (136, .iload_n 1, 1, 0), (137, .iconst 2, 1, 0), (138, .iastore, 1, 0), (139, .goto 17, 3, 0), (142, .aload_n 0, 1, 0), (143, .getfield 13, 3, 7), (146, .iload_n 1, 1, 0), (147, .iconst 0, 1, 0), (148, .iastore, 1, 0), (149, .aload_n 0, 1, 0), (150, .getfield 22, 3, 10), (153, .iload_n 1, 1, 0), (154, .iconst 0, 1, 0), (155, .iastore, 1, 0), (156, .return_, 1, 0)]
def r34 : List Row := [(0, .aload_n 0, 1, 0), (1, .iload_n 1, 1, 0), (2, .invokevirtual 143, 3, 35), (5, .istore_n 2, 1, 0), (6, .aload_n 0, 1, 0), (7, .iload_n 1, 1, 0), (8, .invokevirtual 136, 3, 25), (11, .istore_n 3, 1, 0), (12, .aload_n 0, 1, 0), (13, .getfield 16, 3, 8), (16, .iload_n 1, 1, 0), (17, .iload_n 3, 1, 0), (18, .iastore, 1, 0), (19, .iload_n 3, 1, 0), (20, .ifCond .eq 26, 3, 0), (23, .aload_n 0, 1, 0), (24, .iload_n 1, 1, 0), (25, .iload_n 3, 1, 0), (26, .invokevirtual 146, 3, 36), (29, .istore 4, 2, 0), (31, .iload_n 2, 1, 0), (32, .ifCond .ne 8, 3, 0), (35, .iload 4, 2, 0), (37, .ifCond .eq 7, 3, 0), (40, .iconst 1, 1, 0), (41, .goto 4, 3, 0), (44, .iconst 0, 1, 0), (45, .istore_n 2, 1, 0), (46, .iload_n 2, 1, 0), (47, .ifCond .eq 13, 3, 0), (50, .aload_n 0, 1, 0), (51, .getfield 22, 3, 10), (54, .iload_n 1, 1, 0), (55, .iconst 3, 1, 0), (56, .iastore, 1, 0), (57, .goto 33, 3, 0), (60, .aload_n 0, 1, 0), (61, .getfield 22, 3, 10), (64, .iload_n 1, 1, 0), (65, .aload_n 0, 1, 0), (66, .getfield 22, 3, 10), (69, .iload_n 1, 1, 0), (70, .iaload, 1, 0), (71, .iconst 1, 1, 0), (72, .isub, 1, 0), (73, .iastore, 1, 0), (74, .aload_n 0, 1, 0), (75, .getfield 22, 3, 10), (78, .iload_n 1, 1, 0), (79, .iaload, 1, 0), (80, .ifCond .ne 10, 3, 0), (83, .aload_n 0, 1, 0), (84, .getfield 13, 3, 7), (87, .iload_n 1, 1, 0), (88, .iconst 2, 1, 0), (89, .iastore, 1, 0), (90, .return_, 1, 0)]
def r35 : List Row := [(0, .aload_n 0, 1, 0), (1, .getfield 7, 3, 6), (4, .iload_n 1, 1, 0), (5, .iaload, 1, 0), (6, .istore_n 2, 1, 0), (7, .iconst 0, 1, 0), (8, .istore_n 3, 1, 0), (9, .iconst 0, 1, 0), (10, .istore 4, 2, 0), (12, .iload 4, 2, 0), (14, .aload_n 0, 1, 0), (15, .getfield 63, 3, 4), (18, .if_icmp .ge 87, 3, 0), (21, .aload_n 0, 1, 0), (22, .getfield 25, 3, 11), (25, .iload 4, 2, 0), (27, .iaload, 1, 0), (28, .iconst 2, 1, 0), (29, .if_icmp .ne 70, 3, 0), (32, .aload_n 0, 1, 0), (33, .getfield 43, 3, 17), (36, .iload 4, 2, 0), (38, .iaload, 1, 0), (39, .iload_n 1, 1, 0), (40, .if_icmp .ne 59, 3, 0), (43, .aload_n 0, 1, 0), (44, .getfield 31, 3, 13), (47, .iload 4, 2, 0), (49, .iaload, 1, 0), (50, .iload_n 2, 1, 0), (51, .if_icmp .ne 48, 3, 0), (54, .aload_n 0, 1, 0), (55, .getfield 25, 3, 11), (58, .iload 4, 2, 0), (60, .iconst 3, 1, 0), (61, .iastore, 1, 0), (62, .aload_n 0, 1, 0), (63, .getfield 40, 3, 16), (66, .iload 4, 2, 0), (68, .aload_n 0, 1, 0), (69, .getfield 66, 3, 3), (72, .iastore, 1, 0), (73, .aload_n 0, 1, 0), (74, .getfield 19, 3, 9), (77, .iload_n 1, 1, 0), (78, .aload_n 0, 1, 0), (79, .getfield 19, 3, 9), (82, .iload_n 1, 1, 0), (83, .iaload, 1, 0), (84, .iconst 1, 1, 0), (85, .isub, 1, 0), (86, .iastore, 1, 0), (87, .aload_n 0, 1, 0), (88, .dup, 1, 0), (89, .getfield 73, 3, 5), (92, .iconst 1, 1, 0), (93, .iadd, 1, 0), (94, .putfield 73, 3, 5), (97, .iconst 1, 1, 0), (98, .istore_n 3, 1, 0), (99, .iinc 4 1, 3, 0), (102, .goto (-90), 3, 0), (105, .iload_n 3, 1, 0), (106, .ireturn, 1, 0)]
def r36 : List Row := [(0, .aload_n 0, 1, 0), (1, .getfield 7, 3, 6), (4, .iload_n 1, 1, 0), (5, .iaload, 1, 0), (6, .istore_n 3, 1, 0), (7, .iconst 0, 1, 0), (8, .istore 4, 2, 0), (10, .iconst 0, 1, 0), (11, .istore 5, 2, 0), (13, .iload 5, 2, 0), (15, .aload_n 0, 1, 0), (16, .getfield 63, 3, 4), (19, .if_icmp .ge 96, 3, 0), (22, .aload_n 0, 1, 0), (23, .iload_n 1, 1, 0), (24, .invokevirtual 139, 3, 24), (27, .ifCond .ne 6, 3, 0), (30, .goto 85, 3, 0), (33, .aload_n 0, 1, 0), (34, .getfield 25, 3, 11), (37, .iload 5, 2, 0), (39, .iaload, 1, 0), (40, .iconst 1, 1, 0), (41, .if_icmp .ne 68, 3, 0), (44, .aload_n 0, 1, 0), (45, .getfield 28, 3, 12), (48, .iload 5, 2, 0), (50, .iaload, 1, 0), (51, .iload_n 3, 1, 0), (52, .if_icmp .ne 57, 3, 0), (55, .aload_n 0, 1, 0), (56, .iload 5, 2, 0), (58, .invokevirtual 91, 3, 17), (61, .iload_n 2, 1, 0), (62, .if_icmp .ne 47, 3, 0), (65, .aload_n 0, 1, 0), (66, .getfield 25, 3, 11), (69, .iload 5, 2, 0), (71, .iconst 2, 1, 0), (72, .iastore, 1, 0), (73, .aload_n 0, 1, 0), (74, .getfield 37, 3, 15), (77, .iload 5, 2, 0), (79, .aload_n 0, 1, 0), (80, .getfield 66, 3, 3), (83, .iastore, 1, 0), (84, .aload_n 0, 1, 0), (85, .getfield 43, 3, 17), (88, .iload 5, 2, 0), (90, .iload_n 1, 1, 0), (91, .iastore, 1, 0), (92, .aload_n 0, 1, 0), (93, .getfield 19, 3, 9), (96, .iload_n 1, 1, 0), (97, .aload_n 0, 1, 0), (98, .getfield 19, 3, 9), (101, .iload_n 1, 1, 0), (102, .iaload, 1, 0), (103, .iconst 1, 1, 0), (104, .iadd, 1, 0), (105, .iastore, 1, 0), (106, .iconst 1, 1, 0), (107, .istore 4, 2, 0), (109, .iinc 5 1, 3, 0), (112, .goto (-99), 3, 0), (115, .iload 4, 2, 0), (117, .ireturn, 1, 0)]
def r37 : List Row := [(0, .aload_n 0, 1, 0), (1, .iload_n 1, 1, 0), (2, .invokevirtual 136, 3, 25), (5, .istore_n 2, 1, 0), (6, .aload_n 0, 1, 0), (7, .getfield 16, 3, 8), (10, .iload_n 1, 1, 0), (11, .iload_n 2, 1, 0), (12, .iastore, 1, 0), (13, .iload_n 2, 1, 0), (14, .ifCond .eq 42, 3, 0), (17, .aload_n 0, 1, 0), (18, .iload_n 1, 1, 0), (19, .invokevirtual 139, 3, 24), (22, .ifCond .eq 34, 3, 0), (25, .aload_n 0, 1, 0), (26, .aload_n 0, 1, 0), (27, .getfield 7, 3, 6), (30, .iload_n 1, 1, 0), (31, .iaload, 1, 0), (32, .iload_n 2, 1, 0), (33, .invokevirtual 79, 3, 19), (36, .ifCond .eq 20, 3, 0), (39, .aload_n 0, 1, 0), (40, .getfield 13, 3, 7), (43, .iload_n 1, 1, 0), (44, .iconst 1, 1, 0), (45, .iastore, 1, 0), (46, .aload_n 0, 1, 0), (47, .getfield 22, 3, 10), (50, .iload_n 1, 1, 0), (51, .iconst 3, 1, 0), (52, .iastore, 1, 0), (53, .goto 17, 3, 0), (56, .aload_n 0, 1, 0), (57, .getfield 13, 3, 7), (60, .iload_n 1, 1, 0), (61, .iconst 0, 1, 0), (62, .iastore, 1, 0), (63, .aload_n 0, 1, 0), (64, .getfield 22, 3, 10), (67, .iload_n 1, 1, 0), (68, .iconst 0, 1, 0), (69, .iastore, 1, 0), (70, .return_, 1, 0)]
def prows : List (List Row) := [[], r1, r2, [], r4, r5, r6, r7, r8, r9, [], [], r12, r13, r14, r15, r16, r17, r18, r19, r20, r21, r22, r23, r24, r25, r26, r27, r28, r29, r30, r31, r32, r33, r34, r35, r36, r37]
def pinfo : List MInfo := [(0, 0, 9, none, {}), (4, 5, 3, none, { frames := 1, cells := 13, slots := 276, locals := 16 }), (4, 5, 1, some .int, { frames := 0, cells := 0, slots := 0, locals := 0 }), (4, 15, 1, some .int, { frames := 1, cells := 0, slots := 0, locals := 16 }), (2, 4, 1, some .int, { frames := 9, cells := 0, slots := 0, locals := 132 }), (1, 1, 1, some .int, { frames := 0, cells := 0, slots := 0, locals := 0 }), (1, 1, 1, some .int, { frames := 0, cells := 0, slots := 0, locals := 0 }), (1, 3, 1, some .int, { frames := 0, cells := 0, slots := 0, locals := 0 }), (3, 3, 1, some .int, { frames := 0, cells := 0, slots := 0, locals := 0 }), (3, 3, 1, some .int, { frames := 0, cells := 0, slots := 0, locals := 0 }), (3, 3, 1, some .int, { frames := 2, cells := 0, slots := 0, locals := 28 }), (2, 4, 1, some .int, { frames := 0, cells := 0, slots := 0, locals := 0 }), (1, 3, 1, some .int, { frames := 0, cells := 0, slots := 0, locals := 0 }), (1, 3, 1, some .int, { frames := 0, cells := 0, slots := 0, locals := 0 }), (3, 7, 1, some .int, { frames := 1, cells := 0, slots := 0, locals := 13 }), (4, 4, 2, some .int, { frames := 0, cells := 0, slots := 0, locals := 0 }), (2, 2, 2, some .int, { frames := 0, cells := 0, slots := 0, locals := 0 }), (2, 2, 2, some .int, { frames := 0, cells := 0, slots := 0, locals := 0 }), (3, 3, 2, some .int, { frames := 0, cells := 0, slots := 0, locals := 0 }), (3, 4, 2, some .boolean, { frames := 1, cells := 0, slots := 0, locals := 13 }), (4, 4, 2, some .boolean, { frames := 2, cells := 0, slots := 0, locals := 28 }), (3, 4, 2, some .boolean, { frames := 0, cells := 0, slots := 0, locals := 0 }), (3, 3, 2, some .boolean, { frames := 3, cells := 0, slots := 0, locals := 43 }), (3, 6, 2, some .boolean, { frames := 4, cells := 0, slots := 0, locals := 57 }), (2, 2, 2, some .boolean, { frames := 0, cells := 0, slots := 0, locals := 0 }), (2, 4, 2, some .int, { frames := 5, cells := 0, slots := 0, locals := 74 }), (1, 2, 2, none, { frames := 8, cells := 0, slots := 0, locals := 119 }), (1, 2, 2, none, { frames := 0, cells := 0, slots := 0, locals := 0 }), (1, 4, 2, none, { frames := 3, cells := 0, slots := 0, locals := 47 }), (3, 8, 2, none, { frames := 2, cells := 0, slots := 0, locals := 28 }), (4, 10, 2, some .int, { frames := 0, cells := 0, slots := 0, locals := 0 }), (2, 3, 2, none, { frames := 7, cells := 0, slots := 0, locals := 105 }), (2, 3, 2, none, { frames := 6, cells := 0, slots := 0, locals := 89 }), (2, 6, 2, none, { frames := 5, cells := 0, slots := 0, locals := 74 }), (2, 5, 2, none, { frames := 6, cells := 0, slots := 0, locals := 89 }), (2, 5, 2, some .boolean, { frames := 0, cells := 0, slots := 0, locals := 0 }), (3, 6, 2, some .boolean, { frames := 1, cells := 0, slots := 0, locals := 13 }), (2, 3, 2, none, { frames := 6, cells := 0, slots := 0, locals := 89 })]
def pft : List FieldType := [.int, .int, .int, .int, .int, .int, .array .int, .array .int, .array .int, .array .int, .array .int, .array .int, .array .int, .array .int, .array .int, .array .int, .array .int, .array .int, .array .int]
def pj (lw : LW) : Prog := (fun m pc => if m < 100 then (prows.getD m []).lookup pc else lw.1 (m - 100) pc, fun m => if m < 100 then pinfo.getD m (0, 0, 9, none, {}) else lw.2 (m - 100), fun k => pft.getD k .int, 19)
def lay : Lay := ([(.int, 0), (.int, 0), (.int, 0), (.int, 0), (.int, 0), (.int, 0), (.array .int, 1), (.array .int, 2), (.array .int, 3), (.array .int, 4), (.array .int, 5), (.array .int, 6), (.array .int, 7), (.array .int, 8), (.array .int, 9), (.array .int, 10), (.array .int, 11), (.array .int, 12), (.array .int, 13)], [(.int, 4), (.int, 4), (.int, 4), (.int, 4), (.int, 4), (.int, 32), (.int, 32), (.int, 32), (.int, 32), (.int, 32), (.int, 32), (.int, 32), (.int, 32)])
abbrev ob (H : AH) (p : Nat) (s : St) : AH := put lay 13 H p s
section Acc
variable {H : AH} {p : Nat} {s : St} {i : Int32} {j q : Nat} {v : Int32} {w : Int64}
theorem g0 : fld (put lay j H p s) p 0 = .int (sI s 0) := fld_I (ty := .int) rfl (by decide) (by simp)
theorem s0 : wr (put lay j H p s) p 0 (.int v) = put lay j H p (uI s 0 v) := wr_I (ty := .int) rfl (by decide) (by simp)
theorem g1 : fld (put lay j H p s) p 1 = .int (sI s 1) := fld_I (ty := .int) rfl (by decide) (by simp)
theorem s1 : wr (put lay j H p s) p 1 (.int v) = put lay j H p (uI s 1 v) := wr_I (ty := .int) rfl (by decide) (by simp)
theorem g2 : fld (put lay j H p s) p 2 = .int (sI s 2) := fld_I (ty := .int) rfl (by decide) (by simp)
theorem s2 : wr (put lay j H p s) p 2 (.int v) = put lay j H p (uI s 2 v) := wr_I (ty := .int) rfl (by decide) (by simp)
theorem g3 : fld (put lay j H p s) p 3 = .int (sI s 3) := fld_I (ty := .int) rfl (by decide) (by simp)
theorem s3 : wr (put lay j H p s) p 3 (.int v) = put lay j H p (uI s 3 v) := wr_I (ty := .int) rfl (by decide) (by simp)
theorem g4 : fld (put lay j H p s) p 4 = .int (sI s 4) := fld_I (ty := .int) rfl (by decide) (by simp)
theorem s4 : wr (put lay j H p s) p 4 (.int v) = put lay j H p (uI s 4 v) := wr_I (ty := .int) rfl (by decide) (by simp)
theorem g5 : fld (put lay j H p s) p 5 = .int (sI s 5) := fld_I (ty := .int) rfl (by decide) (by simp)
theorem s5 : wr (put lay j H p s) p 5 (.int v) = put lay j H p (uI s 5 v) := wr_I (ty := .int) rfl (by decide) (by simp)
theorem g6 : fld (ob H p s) p 6 = .ref (p + 1) := fld_R (ty := .int) rfl (by decide)
theorem g7 : fld (ob H p s) p 7 = .ref (p + 2) := fld_R (ty := .int) rfl (by decide)
theorem g8 : fld (ob H p s) p 8 = .ref (p + 3) := fld_R (ty := .int) rfl (by decide)
theorem g9 : fld (ob H p s) p 9 = .ref (p + 4) := fld_R (ty := .int) rfl (by decide)
theorem g10 : fld (ob H p s) p 10 = .ref (p + 5) := fld_R (ty := .int) rfl (by decide)
theorem g11 : fld (ob H p s) p 11 = .ref (p + 6) := fld_R (ty := .int) rfl (by decide)
theorem g12 : fld (ob H p s) p 12 = .ref (p + 7) := fld_R (ty := .int) rfl (by decide)
theorem g13 : fld (ob H p s) p 13 = .ref (p + 8) := fld_R (ty := .int) rfl (by decide)
theorem g14 : fld (ob H p s) p 14 = .ref (p + 9) := fld_R (ty := .int) rfl (by decide)
theorem g15 : fld (ob H p s) p 15 = .ref (p + 10) := fld_R (ty := .int) rfl (by decide)
theorem g16 : fld (ob H p s) p 16 = .ref (p + 11) := fld_R (ty := .int) rfl (by decide)
theorem g17 : fld (ob H p s) p 17 = .ref (p + 12) := fld_R (ty := .int) rfl (by decide)
theorem g18 : fld (ob H p s) p 18 = .ref (p + 13) := fld_R (ty := .int) rfl (by decide)
theorem ai1 : inA (ob H p s) (p + 1) .int i = true ↔ (0 ≤ i.toInt ∧ i.toInt < 4) := inA_I (t := 0) rfl (by decide) (by decide)
theorem aw1 : inAw (ob H p s) (p + 1) .int i = true ↔ (0 ≤ i.toInt ∧ i.toInt < 4) := inAw_I (t := 0) rfl (by decide) (by decide)
theorem ae1 : elt (ob H p s) (p + 1) i = .int (sA s 1 i.toNatClampNeg) := elt_I (t := 0) (ty := .int) rfl (by decide) (by decide)
theorem as1 : wr (ob H p s) (p + 1) q (.int v) = ob H p (uA s 1 q v) := wr_A (t := 0) (ty := .int) rfl (by decide) (by decide)
theorem ai2 : inA (ob H p s) (p + 2) .int i = true ↔ (0 ≤ i.toInt ∧ i.toInt < 4) := inA_I (t := 1) rfl (by decide) (by decide)
theorem aw2 : inAw (ob H p s) (p + 2) .int i = true ↔ (0 ≤ i.toInt ∧ i.toInt < 4) := inAw_I (t := 1) rfl (by decide) (by decide)
theorem ae2 : elt (ob H p s) (p + 2) i = .int (sA s 2 i.toNatClampNeg) := elt_I (t := 1) (ty := .int) rfl (by decide) (by decide)
theorem as2 : wr (ob H p s) (p + 2) q (.int v) = ob H p (uA s 2 q v) := wr_A (t := 1) (ty := .int) rfl (by decide) (by decide)
theorem ai3 : inA (ob H p s) (p + 3) .int i = true ↔ (0 ≤ i.toInt ∧ i.toInt < 4) := inA_I (t := 2) rfl (by decide) (by decide)
theorem aw3 : inAw (ob H p s) (p + 3) .int i = true ↔ (0 ≤ i.toInt ∧ i.toInt < 4) := inAw_I (t := 2) rfl (by decide) (by decide)
theorem ae3 : elt (ob H p s) (p + 3) i = .int (sA s 3 i.toNatClampNeg) := elt_I (t := 2) (ty := .int) rfl (by decide) (by decide)
theorem as3 : wr (ob H p s) (p + 3) q (.int v) = ob H p (uA s 3 q v) := wr_A (t := 2) (ty := .int) rfl (by decide) (by decide)
theorem ai4 : inA (ob H p s) (p + 4) .int i = true ↔ (0 ≤ i.toInt ∧ i.toInt < 4) := inA_I (t := 3) rfl (by decide) (by decide)
theorem aw4 : inAw (ob H p s) (p + 4) .int i = true ↔ (0 ≤ i.toInt ∧ i.toInt < 4) := inAw_I (t := 3) rfl (by decide) (by decide)
theorem ae4 : elt (ob H p s) (p + 4) i = .int (sA s 4 i.toNatClampNeg) := elt_I (t := 3) (ty := .int) rfl (by decide) (by decide)
theorem as4 : wr (ob H p s) (p + 4) q (.int v) = ob H p (uA s 4 q v) := wr_A (t := 3) (ty := .int) rfl (by decide) (by decide)
theorem ai5 : inA (ob H p s) (p + 5) .int i = true ↔ (0 ≤ i.toInt ∧ i.toInt < 4) := inA_I (t := 4) rfl (by decide) (by decide)
theorem aw5 : inAw (ob H p s) (p + 5) .int i = true ↔ (0 ≤ i.toInt ∧ i.toInt < 4) := inAw_I (t := 4) rfl (by decide) (by decide)
theorem ae5 : elt (ob H p s) (p + 5) i = .int (sA s 5 i.toNatClampNeg) := elt_I (t := 4) (ty := .int) rfl (by decide) (by decide)
theorem as5 : wr (ob H p s) (p + 5) q (.int v) = ob H p (uA s 5 q v) := wr_A (t := 4) (ty := .int) rfl (by decide) (by decide)
theorem ai6 : inA (ob H p s) (p + 6) .int i = true ↔ (0 ≤ i.toInt ∧ i.toInt < 32) := inA_I (t := 5) rfl (by decide) (by decide)
theorem aw6 : inAw (ob H p s) (p + 6) .int i = true ↔ (0 ≤ i.toInt ∧ i.toInt < 32) := inAw_I (t := 5) rfl (by decide) (by decide)
theorem ae6 : elt (ob H p s) (p + 6) i = .int (sA s 6 i.toNatClampNeg) := elt_I (t := 5) (ty := .int) rfl (by decide) (by decide)
theorem as6 : wr (ob H p s) (p + 6) q (.int v) = ob H p (uA s 6 q v) := wr_A (t := 5) (ty := .int) rfl (by decide) (by decide)
theorem ai7 : inA (ob H p s) (p + 7) .int i = true ↔ (0 ≤ i.toInt ∧ i.toInt < 32) := inA_I (t := 6) rfl (by decide) (by decide)
theorem aw7 : inAw (ob H p s) (p + 7) .int i = true ↔ (0 ≤ i.toInt ∧ i.toInt < 32) := inAw_I (t := 6) rfl (by decide) (by decide)
theorem ae7 : elt (ob H p s) (p + 7) i = .int (sA s 7 i.toNatClampNeg) := elt_I (t := 6) (ty := .int) rfl (by decide) (by decide)
theorem as7 : wr (ob H p s) (p + 7) q (.int v) = ob H p (uA s 7 q v) := wr_A (t := 6) (ty := .int) rfl (by decide) (by decide)
theorem ai8 : inA (ob H p s) (p + 8) .int i = true ↔ (0 ≤ i.toInt ∧ i.toInt < 32) := inA_I (t := 7) rfl (by decide) (by decide)
theorem aw8 : inAw (ob H p s) (p + 8) .int i = true ↔ (0 ≤ i.toInt ∧ i.toInt < 32) := inAw_I (t := 7) rfl (by decide) (by decide)
theorem ae8 : elt (ob H p s) (p + 8) i = .int (sA s 8 i.toNatClampNeg) := elt_I (t := 7) (ty := .int) rfl (by decide) (by decide)
theorem as8 : wr (ob H p s) (p + 8) q (.int v) = ob H p (uA s 8 q v) := wr_A (t := 7) (ty := .int) rfl (by decide) (by decide)
theorem ai9 : inA (ob H p s) (p + 9) .int i = true ↔ (0 ≤ i.toInt ∧ i.toInt < 32) := inA_I (t := 8) rfl (by decide) (by decide)
theorem aw9 : inAw (ob H p s) (p + 9) .int i = true ↔ (0 ≤ i.toInt ∧ i.toInt < 32) := inAw_I (t := 8) rfl (by decide) (by decide)
theorem ae9 : elt (ob H p s) (p + 9) i = .int (sA s 9 i.toNatClampNeg) := elt_I (t := 8) (ty := .int) rfl (by decide) (by decide)
theorem as9 : wr (ob H p s) (p + 9) q (.int v) = ob H p (uA s 9 q v) := wr_A (t := 8) (ty := .int) rfl (by decide) (by decide)
theorem ai10 : inA (ob H p s) (p + 10) .int i = true ↔ (0 ≤ i.toInt ∧ i.toInt < 32) := inA_I (t := 9) rfl (by decide) (by decide)
theorem aw10 : inAw (ob H p s) (p + 10) .int i = true ↔ (0 ≤ i.toInt ∧ i.toInt < 32) := inAw_I (t := 9) rfl (by decide) (by decide)
theorem ae10 : elt (ob H p s) (p + 10) i = .int (sA s 10 i.toNatClampNeg) := elt_I (t := 9) (ty := .int) rfl (by decide) (by decide)
theorem as10 : wr (ob H p s) (p + 10) q (.int v) = ob H p (uA s 10 q v) := wr_A (t := 9) (ty := .int) rfl (by decide) (by decide)
theorem ai11 : inA (ob H p s) (p + 11) .int i = true ↔ (0 ≤ i.toInt ∧ i.toInt < 32) := inA_I (t := 10) rfl (by decide) (by decide)
theorem aw11 : inAw (ob H p s) (p + 11) .int i = true ↔ (0 ≤ i.toInt ∧ i.toInt < 32) := inAw_I (t := 10) rfl (by decide) (by decide)
theorem ae11 : elt (ob H p s) (p + 11) i = .int (sA s 11 i.toNatClampNeg) := elt_I (t := 10) (ty := .int) rfl (by decide) (by decide)
theorem as11 : wr (ob H p s) (p + 11) q (.int v) = ob H p (uA s 11 q v) := wr_A (t := 10) (ty := .int) rfl (by decide) (by decide)
theorem ai12 : inA (ob H p s) (p + 12) .int i = true ↔ (0 ≤ i.toInt ∧ i.toInt < 32) := inA_I (t := 11) rfl (by decide) (by decide)
theorem aw12 : inAw (ob H p s) (p + 12) .int i = true ↔ (0 ≤ i.toInt ∧ i.toInt < 32) := inAw_I (t := 11) rfl (by decide) (by decide)
theorem ae12 : elt (ob H p s) (p + 12) i = .int (sA s 12 i.toNatClampNeg) := elt_I (t := 11) (ty := .int) rfl (by decide) (by decide)
theorem as12 : wr (ob H p s) (p + 12) q (.int v) = ob H p (uA s 12 q v) := wr_A (t := 11) (ty := .int) rfl (by decide) (by decide)
theorem ai13 : inA (ob H p s) (p + 13) .int i = true ↔ (0 ≤ i.toInt ∧ i.toInt < 32) := inA_I (t := 12) rfl (by decide) (by decide)
theorem aw13 : inAw (ob H p s) (p + 13) .int i = true ↔ (0 ≤ i.toInt ∧ i.toInt < 32) := inAw_I (t := 12) rfl (by decide) (by decide)
theorem ae13 : elt (ob H p s) (p + 13) i = .int (sA s 13 i.toNatClampNeg) := elt_I (t := 12) (ty := .int) rfl (by decide) (by decide)
theorem as13 : wr (ob H p s) (p + 13) q (.int v) = ob H p (uA s 13 q v) := wr_A (t := 12) (ty := .int) rfl (by decide) (by decide)
theorem mkO_ob {lw : LW} : mkO (pj lw) H = put lay 0 (H.1 + 1, H.2) H.1 z0 := mkO_put rfl (fun k => match k with | 0 => rfl | 1 => rfl | 2 => rfl | 3 => rfl | 4 => rfl | 5 => rfl | 6 => rfl | 7 => rfl | 8 => rfl | 9 => rfl | 10 => rfl | 11 => rfl | 12 => rfl | 13 => rfl | 14 => rfl | 15 => rfl | 16 => rfl | 17 => rfl | 18 => rfl | (_ + 19) => rfl)
theorem mk1 {h : Nat → Cel} (hz : zr s 1) : wr (mkA .int 4 (put lay 0 (p + 1, h) p s)) p 6 (.ref (p + 1)) = put lay 1 (p + 2, h) p s := mkA_put (j := 0) rfl rfl (by decide) hz.1 hz.2 (Or.inl rfl)
theorem io1 {h : Nat → Cel} : isOw (mkA .int 4 (put lay 0 (p + 1, h) p s)) p = true := isOw_mk (c := 0)
theorem mk2 {h : Nat → Cel} (hz : zr s 2) : wr (mkA .int 4 (put lay 1 (p + 2, h) p s)) p 7 (.ref (p + 2)) = put lay 2 (p + 3, h) p s := mkA_put (j := 1) rfl rfl (by decide) hz.1 hz.2 (Or.inl rfl)
theorem io2 {h : Nat → Cel} : isOw (mkA .int 4 (put lay 1 (p + 2, h) p s)) p = true := isOw_mk (c := 1)
theorem mk3 {h : Nat → Cel} (hz : zr s 3) : wr (mkA .int 4 (put lay 2 (p + 3, h) p s)) p 8 (.ref (p + 3)) = put lay 3 (p + 4, h) p s := mkA_put (j := 2) rfl rfl (by decide) hz.1 hz.2 (Or.inl rfl)
theorem io3 {h : Nat → Cel} : isOw (mkA .int 4 (put lay 2 (p + 3, h) p s)) p = true := isOw_mk (c := 2)
theorem mk4 {h : Nat → Cel} (hz : zr s 4) : wr (mkA .int 4 (put lay 3 (p + 4, h) p s)) p 9 (.ref (p + 4)) = put lay 4 (p + 5, h) p s := mkA_put (j := 3) rfl rfl (by decide) hz.1 hz.2 (Or.inl rfl)
theorem io4 {h : Nat → Cel} : isOw (mkA .int 4 (put lay 3 (p + 4, h) p s)) p = true := isOw_mk (c := 3)
theorem mk5 {h : Nat → Cel} (hz : zr s 5) : wr (mkA .int 4 (put lay 4 (p + 5, h) p s)) p 10 (.ref (p + 5)) = put lay 5 (p + 6, h) p s := mkA_put (j := 4) rfl rfl (by decide) hz.1 hz.2 (Or.inl rfl)
theorem io5 {h : Nat → Cel} : isOw (mkA .int 4 (put lay 4 (p + 5, h) p s)) p = true := isOw_mk (c := 4)
theorem mk6 {h : Nat → Cel} (hz : zr s 6) : wr (mkA .int 32 (put lay 5 (p + 6, h) p s)) p 11 (.ref (p + 6)) = put lay 6 (p + 7, h) p s := mkA_put (j := 5) rfl rfl (by decide) hz.1 hz.2 (Or.inl rfl)
theorem io6 {h : Nat → Cel} : isOw (mkA .int 32 (put lay 5 (p + 6, h) p s)) p = true := isOw_mk (c := 5)
theorem mk7 {h : Nat → Cel} (hz : zr s 7) : wr (mkA .int 32 (put lay 6 (p + 7, h) p s)) p 12 (.ref (p + 7)) = put lay 7 (p + 8, h) p s := mkA_put (j := 6) rfl rfl (by decide) hz.1 hz.2 (Or.inl rfl)
theorem io7 {h : Nat → Cel} : isOw (mkA .int 32 (put lay 6 (p + 7, h) p s)) p = true := isOw_mk (c := 6)
theorem mk8 {h : Nat → Cel} (hz : zr s 8) : wr (mkA .int 32 (put lay 7 (p + 8, h) p s)) p 13 (.ref (p + 8)) = put lay 8 (p + 9, h) p s := mkA_put (j := 7) rfl rfl (by decide) hz.1 hz.2 (Or.inl rfl)
theorem io8 {h : Nat → Cel} : isOw (mkA .int 32 (put lay 7 (p + 8, h) p s)) p = true := isOw_mk (c := 7)
theorem mk9 {h : Nat → Cel} (hz : zr s 9) : wr (mkA .int 32 (put lay 8 (p + 9, h) p s)) p 14 (.ref (p + 9)) = put lay 9 (p + 10, h) p s := mkA_put (j := 8) rfl rfl (by decide) hz.1 hz.2 (Or.inl rfl)
theorem io9 {h : Nat → Cel} : isOw (mkA .int 32 (put lay 8 (p + 9, h) p s)) p = true := isOw_mk (c := 8)
theorem mk10 {h : Nat → Cel} (hz : zr s 10) : wr (mkA .int 32 (put lay 9 (p + 10, h) p s)) p 15 (.ref (p + 10)) = put lay 10 (p + 11, h) p s := mkA_put (j := 9) rfl rfl (by decide) hz.1 hz.2 (Or.inl rfl)
theorem io10 {h : Nat → Cel} : isOw (mkA .int 32 (put lay 9 (p + 10, h) p s)) p = true := isOw_mk (c := 9)
theorem mk11 {h : Nat → Cel} (hz : zr s 11) : wr (mkA .int 32 (put lay 10 (p + 11, h) p s)) p 16 (.ref (p + 11)) = put lay 11 (p + 12, h) p s := mkA_put (j := 10) rfl rfl (by decide) hz.1 hz.2 (Or.inl rfl)
theorem io11 {h : Nat → Cel} : isOw (mkA .int 32 (put lay 10 (p + 11, h) p s)) p = true := isOw_mk (c := 10)
theorem mk12 {h : Nat → Cel} (hz : zr s 12) : wr (mkA .int 32 (put lay 11 (p + 12, h) p s)) p 17 (.ref (p + 12)) = put lay 12 (p + 13, h) p s := mkA_put (j := 11) rfl rfl (by decide) hz.1 hz.2 (Or.inl rfl)
theorem io12 {h : Nat → Cel} : isOw (mkA .int 32 (put lay 11 (p + 12, h) p s)) p = true := isOw_mk (c := 11)
theorem mk13 {h : Nat → Cel} (hz : zr s 13) : wr (mkA .int 32 (put lay 12 (p + 13, h) p s)) p 18 (.ref (p + 13)) = put lay 13 (p + 14, h) p s := mkA_put (j := 12) rfl rfl (by decide) hz.1 hz.2 (Or.inl rfl)
theorem io13 {h : Nat → Cel} : isOw (mkA .int 32 (put lay 12 (p + 13, h) p s)) p = true := isOw_mk (c := 12)
end Acc
section Pc
variable {lw : LW} {L : List Slot} {S : List Value} {k n : Nat} {H : AH} {Q : Option Value → AH → Prop}
theorem c1 {x0 : Nat} {x1 : Int32} {x2 : Int32} {x3 : Int32} : Cl (pj lw) 1 [.ref x0, .int x1, .int x2, .int x3] H Q ↔ W (pj lw) 1 0 [.val (.ref x0), .val (.int x1), .val (.int x2), .val (.int x3), .unset] [] 0 0 H Q := cl_unf rfl
theorem w1_0 {x : Nat} : W (pj lw) 1 0 (.val (.ref x) :: L) S k n H Q ↔ W (pj lw) 1 1 (.val (.ref x) :: L) (.ref x :: S) k n H Q := W_s (rfl : (pj lw).1 1 0 = some (.aload_n 0, 1, 0)) rfl rfl rfl
theorem w1_1 {a : Nat} : W (pj lw) 1 1 L (.ref a :: S) k n H Q ↔ ((1 ≤ 1 ∧ cs S + 12 ≤ 16) ∧ W (pj lw) 1 4 L S k n H Q) := W_oinit (rfl : (pj lw).1 1 1 = some (.invokespecial 1, 3, (-1)))
theorem w1_4 {x : Nat} : W (pj lw) 1 4 (.val (.ref x) :: L) S k n H Q ↔ W (pj lw) 1 5 (.val (.ref x) :: L) (.ref x :: S) k n H Q := W_s (rfl : (pj lw).1 1 4 = some (.aload_n 0, 1, 0)) rfl rfl rfl
theorem w1_5 : W (pj lw) 1 5 L S k n H Q ↔ W (pj lw) 1 6 L (.int 4 :: S) k n H Q := W_s (rfl : (pj lw).1 1 5 = some (.iconst 4, 1, 0)) rfl rfl rfl
theorem w1_6 : W (pj lw) 1 6 L (.int 4 :: S) k n H Q ↔ ((k + 1 ≤ 13 ∧ n + 4 ≤ 276) ∧ W (pj lw) 1 8 L (.ref H.1 :: S) (k + 1) (n + 4) (mkA .int 4 H) Q) := W_newarr' (rfl : (pj lw).1 1 6 = some (.newarray .int, 2, 0)) rfl (by decide) (by decide)
theorem w1_8 {a : Nat} {v : Value} : W (pj lw) 1 8 L (v :: .ref a :: S) k n H Q ↔ ((isOw H a = true ∧ okv (.array .int) v = true) ∧ W (pj lw) 1 11 L S k n (wr H a 6 v) Q) := W_putf (rfl : (pj lw).1 1 8 = some (.putfield 7, 3, 6))
theorem w1_11 {x : Nat} : W (pj lw) 1 11 (.val (.ref x) :: L) S k n H Q ↔ W (pj lw) 1 12 (.val (.ref x) :: L) (.ref x :: S) k n H Q := W_s (rfl : (pj lw).1 1 11 = some (.aload_n 0, 1, 0)) rfl rfl rfl
theorem w1_12 : W (pj lw) 1 12 L S k n H Q ↔ W (pj lw) 1 13 L (.int 4 :: S) k n H Q := W_s (rfl : (pj lw).1 1 12 = some (.iconst 4, 1, 0)) rfl rfl rfl
theorem w1_13 : W (pj lw) 1 13 L (.int 4 :: S) k n H Q ↔ ((k + 1 ≤ 13 ∧ n + 4 ≤ 276) ∧ W (pj lw) 1 15 L (.ref H.1 :: S) (k + 1) (n + 4) (mkA .int 4 H) Q) := W_newarr' (rfl : (pj lw).1 1 13 = some (.newarray .int, 2, 0)) rfl (by decide) (by decide)
theorem w1_15 {a : Nat} {v : Value} : W (pj lw) 1 15 L (v :: .ref a :: S) k n H Q ↔ ((isOw H a = true ∧ okv (.array .int) v = true) ∧ W (pj lw) 1 18 L S k n (wr H a 7 v) Q) := W_putf (rfl : (pj lw).1 1 15 = some (.putfield 13, 3, 7))
theorem w1_18 {x : Nat} : W (pj lw) 1 18 (.val (.ref x) :: L) S k n H Q ↔ W (pj lw) 1 19 (.val (.ref x) :: L) (.ref x :: S) k n H Q := W_s (rfl : (pj lw).1 1 18 = some (.aload_n 0, 1, 0)) rfl rfl rfl
theorem w1_19 : W (pj lw) 1 19 L S k n H Q ↔ W (pj lw) 1 20 L (.int 4 :: S) k n H Q := W_s (rfl : (pj lw).1 1 19 = some (.iconst 4, 1, 0)) rfl rfl rfl
theorem w1_20 : W (pj lw) 1 20 L (.int 4 :: S) k n H Q ↔ ((k + 1 ≤ 13 ∧ n + 4 ≤ 276) ∧ W (pj lw) 1 22 L (.ref H.1 :: S) (k + 1) (n + 4) (mkA .int 4 H) Q) := W_newarr' (rfl : (pj lw).1 1 20 = some (.newarray .int, 2, 0)) rfl (by decide) (by decide)
theorem w1_22 {a : Nat} {v : Value} : W (pj lw) 1 22 L (v :: .ref a :: S) k n H Q ↔ ((isOw H a = true ∧ okv (.array .int) v = true) ∧ W (pj lw) 1 25 L S k n (wr H a 8 v) Q) := W_putf (rfl : (pj lw).1 1 22 = some (.putfield 16, 3, 8))
theorem w1_25 {x : Nat} : W (pj lw) 1 25 (.val (.ref x) :: L) S k n H Q ↔ W (pj lw) 1 26 (.val (.ref x) :: L) (.ref x :: S) k n H Q := W_s (rfl : (pj lw).1 1 25 = some (.aload_n 0, 1, 0)) rfl rfl rfl
theorem w1_26 : W (pj lw) 1 26 L S k n H Q ↔ W (pj lw) 1 27 L (.int 4 :: S) k n H Q := W_s (rfl : (pj lw).1 1 26 = some (.iconst 4, 1, 0)) rfl rfl rfl
theorem w1_27 : W (pj lw) 1 27 L (.int 4 :: S) k n H Q ↔ ((k + 1 ≤ 13 ∧ n + 4 ≤ 276) ∧ W (pj lw) 1 29 L (.ref H.1 :: S) (k + 1) (n + 4) (mkA .int 4 H) Q) := W_newarr' (rfl : (pj lw).1 1 27 = some (.newarray .int, 2, 0)) rfl (by decide) (by decide)
theorem w1_29 {a : Nat} {v : Value} : W (pj lw) 1 29 L (v :: .ref a :: S) k n H Q ↔ ((isOw H a = true ∧ okv (.array .int) v = true) ∧ W (pj lw) 1 32 L S k n (wr H a 9 v) Q) := W_putf (rfl : (pj lw).1 1 29 = some (.putfield 19, 3, 9))
theorem w1_32 {x : Nat} : W (pj lw) 1 32 (.val (.ref x) :: L) S k n H Q ↔ W (pj lw) 1 33 (.val (.ref x) :: L) (.ref x :: S) k n H Q := W_s (rfl : (pj lw).1 1 32 = some (.aload_n 0, 1, 0)) rfl rfl rfl
theorem w1_33 : W (pj lw) 1 33 L S k n H Q ↔ W (pj lw) 1 34 L (.int 4 :: S) k n H Q := W_s (rfl : (pj lw).1 1 33 = some (.iconst 4, 1, 0)) rfl rfl rfl
theorem w1_34 : W (pj lw) 1 34 L (.int 4 :: S) k n H Q ↔ ((k + 1 ≤ 13 ∧ n + 4 ≤ 276) ∧ W (pj lw) 1 36 L (.ref H.1 :: S) (k + 1) (n + 4) (mkA .int 4 H) Q) := W_newarr' (rfl : (pj lw).1 1 34 = some (.newarray .int, 2, 0)) rfl (by decide) (by decide)
theorem w1_36 {a : Nat} {v : Value} : W (pj lw) 1 36 L (v :: .ref a :: S) k n H Q ↔ ((isOw H a = true ∧ okv (.array .int) v = true) ∧ W (pj lw) 1 39 L S k n (wr H a 10 v) Q) := W_putf (rfl : (pj lw).1 1 36 = some (.putfield 22, 3, 10))
theorem w1_39 {x : Nat} : W (pj lw) 1 39 (.val (.ref x) :: L) S k n H Q ↔ W (pj lw) 1 40 (.val (.ref x) :: L) (.ref x :: S) k n H Q := W_s (rfl : (pj lw).1 1 39 = some (.aload_n 0, 1, 0)) rfl rfl rfl
theorem w1_40 : W (pj lw) 1 40 L S k n H Q ↔ W (pj lw) 1 42 L (.int 32 :: S) k n H Q := W_s (rfl : (pj lw).1 1 40 = some (.bipush 32, 2, 0)) rfl rfl rfl
theorem w1_42 : W (pj lw) 1 42 L (.int 32 :: S) k n H Q ↔ ((k + 1 ≤ 13 ∧ n + 32 ≤ 276) ∧ W (pj lw) 1 44 L (.ref H.1 :: S) (k + 1) (n + 32) (mkA .int 32 H) Q) := W_newarr' (rfl : (pj lw).1 1 42 = some (.newarray .int, 2, 0)) rfl (by decide) (by decide)
theorem w1_44 {a : Nat} {v : Value} : W (pj lw) 1 44 L (v :: .ref a :: S) k n H Q ↔ ((isOw H a = true ∧ okv (.array .int) v = true) ∧ W (pj lw) 1 47 L S k n (wr H a 11 v) Q) := W_putf (rfl : (pj lw).1 1 44 = some (.putfield 25, 3, 11))
theorem w1_47 {x : Nat} : W (pj lw) 1 47 (.val (.ref x) :: L) S k n H Q ↔ W (pj lw) 1 48 (.val (.ref x) :: L) (.ref x :: S) k n H Q := W_s (rfl : (pj lw).1 1 47 = some (.aload_n 0, 1, 0)) rfl rfl rfl
theorem w1_48 : W (pj lw) 1 48 L S k n H Q ↔ W (pj lw) 1 50 L (.int 32 :: S) k n H Q := W_s (rfl : (pj lw).1 1 48 = some (.bipush 32, 2, 0)) rfl rfl rfl
theorem w1_50 : W (pj lw) 1 50 L (.int 32 :: S) k n H Q ↔ ((k + 1 ≤ 13 ∧ n + 32 ≤ 276) ∧ W (pj lw) 1 52 L (.ref H.1 :: S) (k + 1) (n + 32) (mkA .int 32 H) Q) := W_newarr' (rfl : (pj lw).1 1 50 = some (.newarray .int, 2, 0)) rfl (by decide) (by decide)
theorem w1_52 {a : Nat} {v : Value} : W (pj lw) 1 52 L (v :: .ref a :: S) k n H Q ↔ ((isOw H a = true ∧ okv (.array .int) v = true) ∧ W (pj lw) 1 55 L S k n (wr H a 12 v) Q) := W_putf (rfl : (pj lw).1 1 52 = some (.putfield 28, 3, 12))
theorem w1_55 {x : Nat} : W (pj lw) 1 55 (.val (.ref x) :: L) S k n H Q ↔ W (pj lw) 1 56 (.val (.ref x) :: L) (.ref x :: S) k n H Q := W_s (rfl : (pj lw).1 1 55 = some (.aload_n 0, 1, 0)) rfl rfl rfl
theorem w1_56 : W (pj lw) 1 56 L S k n H Q ↔ W (pj lw) 1 58 L (.int 32 :: S) k n H Q := W_s (rfl : (pj lw).1 1 56 = some (.bipush 32, 2, 0)) rfl rfl rfl
theorem w1_58 : W (pj lw) 1 58 L (.int 32 :: S) k n H Q ↔ ((k + 1 ≤ 13 ∧ n + 32 ≤ 276) ∧ W (pj lw) 1 60 L (.ref H.1 :: S) (k + 1) (n + 32) (mkA .int 32 H) Q) := W_newarr' (rfl : (pj lw).1 1 58 = some (.newarray .int, 2, 0)) rfl (by decide) (by decide)
theorem w1_60 {a : Nat} {v : Value} : W (pj lw) 1 60 L (v :: .ref a :: S) k n H Q ↔ ((isOw H a = true ∧ okv (.array .int) v = true) ∧ W (pj lw) 1 63 L S k n (wr H a 13 v) Q) := W_putf (rfl : (pj lw).1 1 60 = some (.putfield 31, 3, 13))
theorem w1_63 {x : Nat} : W (pj lw) 1 63 (.val (.ref x) :: L) S k n H Q ↔ W (pj lw) 1 64 (.val (.ref x) :: L) (.ref x :: S) k n H Q := W_s (rfl : (pj lw).1 1 63 = some (.aload_n 0, 1, 0)) rfl rfl rfl
theorem w1_64 : W (pj lw) 1 64 L S k n H Q ↔ W (pj lw) 1 66 L (.int 32 :: S) k n H Q := W_s (rfl : (pj lw).1 1 64 = some (.bipush 32, 2, 0)) rfl rfl rfl
theorem w1_66 : W (pj lw) 1 66 L (.int 32 :: S) k n H Q ↔ ((k + 1 ≤ 13 ∧ n + 32 ≤ 276) ∧ W (pj lw) 1 68 L (.ref H.1 :: S) (k + 1) (n + 32) (mkA .int 32 H) Q) := W_newarr' (rfl : (pj lw).1 1 66 = some (.newarray .int, 2, 0)) rfl (by decide) (by decide)
theorem w1_68 {a : Nat} {v : Value} : W (pj lw) 1 68 L (v :: .ref a :: S) k n H Q ↔ ((isOw H a = true ∧ okv (.array .int) v = true) ∧ W (pj lw) 1 71 L S k n (wr H a 14 v) Q) := W_putf (rfl : (pj lw).1 1 68 = some (.putfield 34, 3, 14))
theorem w1_71 {x : Nat} : W (pj lw) 1 71 (.val (.ref x) :: L) S k n H Q ↔ W (pj lw) 1 72 (.val (.ref x) :: L) (.ref x :: S) k n H Q := W_s (rfl : (pj lw).1 1 71 = some (.aload_n 0, 1, 0)) rfl rfl rfl
theorem w1_72 : W (pj lw) 1 72 L S k n H Q ↔ W (pj lw) 1 74 L (.int 32 :: S) k n H Q := W_s (rfl : (pj lw).1 1 72 = some (.bipush 32, 2, 0)) rfl rfl rfl
theorem w1_74 : W (pj lw) 1 74 L (.int 32 :: S) k n H Q ↔ ((k + 1 ≤ 13 ∧ n + 32 ≤ 276) ∧ W (pj lw) 1 76 L (.ref H.1 :: S) (k + 1) (n + 32) (mkA .int 32 H) Q) := W_newarr' (rfl : (pj lw).1 1 74 = some (.newarray .int, 2, 0)) rfl (by decide) (by decide)
theorem w1_76 {a : Nat} {v : Value} : W (pj lw) 1 76 L (v :: .ref a :: S) k n H Q ↔ ((isOw H a = true ∧ okv (.array .int) v = true) ∧ W (pj lw) 1 79 L S k n (wr H a 15 v) Q) := W_putf (rfl : (pj lw).1 1 76 = some (.putfield 37, 3, 15))
theorem w1_79 {x : Nat} : W (pj lw) 1 79 (.val (.ref x) :: L) S k n H Q ↔ W (pj lw) 1 80 (.val (.ref x) :: L) (.ref x :: S) k n H Q := W_s (rfl : (pj lw).1 1 79 = some (.aload_n 0, 1, 0)) rfl rfl rfl
theorem w1_80 : W (pj lw) 1 80 L S k n H Q ↔ W (pj lw) 1 82 L (.int 32 :: S) k n H Q := W_s (rfl : (pj lw).1 1 80 = some (.bipush 32, 2, 0)) rfl rfl rfl
theorem w1_82 : W (pj lw) 1 82 L (.int 32 :: S) k n H Q ↔ ((k + 1 ≤ 13 ∧ n + 32 ≤ 276) ∧ W (pj lw) 1 84 L (.ref H.1 :: S) (k + 1) (n + 32) (mkA .int 32 H) Q) := W_newarr' (rfl : (pj lw).1 1 82 = some (.newarray .int, 2, 0)) rfl (by decide) (by decide)
theorem w1_84 {a : Nat} {v : Value} : W (pj lw) 1 84 L (v :: .ref a :: S) k n H Q ↔ ((isOw H a = true ∧ okv (.array .int) v = true) ∧ W (pj lw) 1 87 L S k n (wr H a 16 v) Q) := W_putf (rfl : (pj lw).1 1 84 = some (.putfield 40, 3, 16))
theorem w1_87 {x : Nat} : W (pj lw) 1 87 (.val (.ref x) :: L) S k n H Q ↔ W (pj lw) 1 88 (.val (.ref x) :: L) (.ref x :: S) k n H Q := W_s (rfl : (pj lw).1 1 87 = some (.aload_n 0, 1, 0)) rfl rfl rfl
theorem w1_88 : W (pj lw) 1 88 L S k n H Q ↔ W (pj lw) 1 90 L (.int 32 :: S) k n H Q := W_s (rfl : (pj lw).1 1 88 = some (.bipush 32, 2, 0)) rfl rfl rfl
theorem w1_90 : W (pj lw) 1 90 L (.int 32 :: S) k n H Q ↔ ((k + 1 ≤ 13 ∧ n + 32 ≤ 276) ∧ W (pj lw) 1 92 L (.ref H.1 :: S) (k + 1) (n + 32) (mkA .int 32 H) Q) := W_newarr' (rfl : (pj lw).1 1 90 = some (.newarray .int, 2, 0)) rfl (by decide) (by decide)
theorem w1_92 {a : Nat} {v : Value} : W (pj lw) 1 92 L (v :: .ref a :: S) k n H Q ↔ ((isOw H a = true ∧ okv (.array .int) v = true) ∧ W (pj lw) 1 95 L S k n (wr H a 17 v) Q) := W_putf (rfl : (pj lw).1 1 92 = some (.putfield 43, 3, 17))
theorem w1_95 {x : Nat} : W (pj lw) 1 95 (.val (.ref x) :: L) S k n H Q ↔ W (pj lw) 1 96 (.val (.ref x) :: L) (.ref x :: S) k n H Q := W_s (rfl : (pj lw).1 1 95 = some (.aload_n 0, 1, 0)) rfl rfl rfl
theorem w1_96 : W (pj lw) 1 96 L S k n H Q ↔ W (pj lw) 1 98 L (.int 32 :: S) k n H Q := W_s (rfl : (pj lw).1 1 96 = some (.bipush 32, 2, 0)) rfl rfl rfl
theorem w1_98 : W (pj lw) 1 98 L (.int 32 :: S) k n H Q ↔ ((k + 1 ≤ 13 ∧ n + 32 ≤ 276) ∧ W (pj lw) 1 100 L (.ref H.1 :: S) (k + 1) (n + 32) (mkA .int 32 H) Q) := W_newarr' (rfl : (pj lw).1 1 98 = some (.newarray .int, 2, 0)) rfl (by decide) (by decide)
theorem w1_100 {a : Nat} {v : Value} : W (pj lw) 1 100 L (v :: .ref a :: S) k n H Q ↔ ((isOw H a = true ∧ okv (.array .int) v = true) ∧ W (pj lw) 1 103 L S k n (wr H a 18 v) Q) := W_putf (rfl : (pj lw).1 1 100 = some (.putfield 46, 3, 18))
theorem w1_103 {x : Nat} : W (pj lw) 1 103 (.val (.ref x) :: L) S k n H Q ↔ W (pj lw) 1 104 (.val (.ref x) :: L) (.ref x :: S) k n H Q := W_s (rfl : (pj lw).1 1 103 = some (.aload_n 0, 1, 0)) rfl rfl rfl
theorem w1_104 {x : Nat} : W (pj lw) 1 104 (.val (.ref x) :: L) S k n H Q ↔ W (pj lw) 1 105 (.val (.ref x) :: L) (.ref x :: S) k n H Q := W_s (rfl : (pj lw).1 1 104 = some (.aload_n 0, 1, 0)) rfl rfl rfl
theorem w1_105 {x : Int32} {l0 : Slot} : W (pj lw) 1 105 (l0 :: .val (.int x) :: L) S k n H Q ↔ W (pj lw) 1 106 (l0 :: .val (.int x) :: L) (.int x :: S) k n H Q := W_s (rfl : (pj lw).1 1 105 = some (.iload_n 1, 1, 0)) rfl rfl rfl
theorem w1_106 : W (pj lw) 1 106 L S k n H Q ↔ W (pj lw) 1 107 L (.int 1 :: S) k n H Q := W_s (rfl : (pj lw).1 1 106 = some (.iconst 1, 1, 0)) rfl rfl rfl
theorem w1_107 : W (pj lw) 1 107 L S k n H Q ↔ W (pj lw) 1 108 L (.int 4 :: S) k n H Q := W_s (rfl : (pj lw).1 1 107 = some (.iconst 4, 1, 0)) rfl rfl rfl
theorem w1_108 {a : Nat} {x0 : Int32} {x1 : Int32} {x2 : Int32} : W (pj lw) 1 108 L (.int x2 :: .int x1 :: .int x0 :: .ref a :: S) k n H Q ↔ ((isO H a = true ∧ cs S + (4 + 11) + 0 ≤ 16) ∧ Cl (pj lw) 15 [.ref a, .int x0, .int x1, .int x2] H (fun v H => W (pj lw) 1 111 L (v.toList ++ S) k n H Q)) := W_inst (as := [.int x0, .int x1, .int x2]) (rfl : (pj lw).1 1 108 = some (.invokevirtual 49, 3, 15)) rfl rfl rfl (Nat.le_of_ble_eq_true rfl) (Nat.le_of_ble_eq_true rfl) ⟨rfl, rfl⟩
theorem w1_111 {a : Nat} {v : Value} : W (pj lw) 1 111 L (v :: .ref a :: S) k n H Q ↔ ((isOw H a = true ∧ okv (.int) v = true) ∧ W (pj lw) 1 114 L S k n (wr H a 0 v) Q) := W_putf (rfl : (pj lw).1 1 111 = some (.putfield 53, 3, 0))
theorem w1_114 {x : Nat} : W (pj lw) 1 114 (.val (.ref x) :: L) S k n H Q ↔ W (pj lw) 1 115 (.val (.ref x) :: L) (.ref x :: S) k n H Q := W_s (rfl : (pj lw).1 1 114 = some (.aload_n 0, 1, 0)) rfl rfl rfl
theorem w1_115 {x : Nat} : W (pj lw) 1 115 (.val (.ref x) :: L) S k n H Q ↔ W (pj lw) 1 116 (.val (.ref x) :: L) (.ref x :: S) k n H Q := W_s (rfl : (pj lw).1 1 115 = some (.aload_n 0, 1, 0)) rfl rfl rfl
theorem w1_116 {x : Int32} {l0 l1 : Slot} : W (pj lw) 1 116 (l0 :: l1 :: .val (.int x) :: L) S k n H Q ↔ W (pj lw) 1 117 (l0 :: l1 :: .val (.int x) :: L) (.int x :: S) k n H Q := W_s (rfl : (pj lw).1 1 116 = some (.iload_n 2, 1, 0)) rfl rfl rfl
theorem w1_117 : W (pj lw) 1 117 L S k n H Q ↔ W (pj lw) 1 118 L (.int 2 :: S) k n H Q := W_s (rfl : (pj lw).1 1 117 = some (.iconst 2, 1, 0)) rfl rfl rfl
theorem w1_118 : W (pj lw) 1 118 L S k n H Q ↔ W (pj lw) 1 120 L (.int 16 :: S) k n H Q := W_s (rfl : (pj lw).1 1 118 = some (.bipush 16, 2, 0)) rfl rfl rfl
theorem w1_120 {a : Nat} {x0 : Int32} {x1 : Int32} {x2 : Int32} : W (pj lw) 1 120 L (.int x2 :: .int x1 :: .int x0 :: .ref a :: S) k n H Q ↔ ((isO H a = true ∧ cs S + (4 + 11) + 0 ≤ 16) ∧ Cl (pj lw) 15 [.ref a, .int x0, .int x1, .int x2] H (fun v H => W (pj lw) 1 123 L (v.toList ++ S) k n H Q)) := W_inst (as := [.int x0, .int x1, .int x2]) (rfl : (pj lw).1 1 120 = some (.invokevirtual 49, 3, 15)) rfl rfl rfl (Nat.le_of_ble_eq_true rfl) (Nat.le_of_ble_eq_true rfl) ⟨rfl, rfl⟩
theorem w1_123 {a : Nat} {v : Value} : W (pj lw) 1 123 L (v :: .ref a :: S) k n H Q ↔ ((isOw H a = true ∧ okv (.int) v = true) ∧ W (pj lw) 1 126 L S k n (wr H a 1 v) Q) := W_putf (rfl : (pj lw).1 1 123 = some (.putfield 57, 3, 1))
theorem w1_126 {x : Nat} : W (pj lw) 1 126 (.val (.ref x) :: L) S k n H Q ↔ W (pj lw) 1 127 (.val (.ref x) :: L) (.ref x :: S) k n H Q := W_s (rfl : (pj lw).1 1 126 = some (.aload_n 0, 1, 0)) rfl rfl rfl
theorem w1_127 {x : Nat} : W (pj lw) 1 127 (.val (.ref x) :: L) S k n H Q ↔ W (pj lw) 1 128 (.val (.ref x) :: L) (.ref x :: S) k n H Q := W_s (rfl : (pj lw).1 1 127 = some (.aload_n 0, 1, 0)) rfl rfl rfl
theorem w1_128 {x : Int32} {l0 l1 l2 : Slot} : W (pj lw) 1 128 (l0 :: l1 :: l2 :: .val (.int x) :: L) S k n H Q ↔ W (pj lw) 1 129 (l0 :: l1 :: l2 :: .val (.int x) :: L) (.int x :: S) k n H Q := W_s (rfl : (pj lw).1 1 128 = some (.iload_n 3, 1, 0)) rfl rfl rfl
theorem w1_129 : W (pj lw) 1 129 L S k n H Q ↔ W (pj lw) 1 130 L (.int 1 :: S) k n H Q := W_s (rfl : (pj lw).1 1 129 = some (.iconst 1, 1, 0)) rfl rfl rfl
theorem w1_130 : W (pj lw) 1 130 L S k n H Q ↔ W (pj lw) 1 132 L (.int 8 :: S) k n H Q := W_s (rfl : (pj lw).1 1 130 = some (.bipush 8, 2, 0)) rfl rfl rfl
theorem w1_132 {a : Nat} {x0 : Int32} {x1 : Int32} {x2 : Int32} : W (pj lw) 1 132 L (.int x2 :: .int x1 :: .int x0 :: .ref a :: S) k n H Q ↔ ((isO H a = true ∧ cs S + (4 + 11) + 0 ≤ 16) ∧ Cl (pj lw) 15 [.ref a, .int x0, .int x1, .int x2] H (fun v H => W (pj lw) 1 135 L (v.toList ++ S) k n H Q)) := W_inst (as := [.int x0, .int x1, .int x2]) (rfl : (pj lw).1 1 132 = some (.invokevirtual 49, 3, 15)) rfl rfl rfl (Nat.le_of_ble_eq_true rfl) (Nat.le_of_ble_eq_true rfl) ⟨rfl, rfl⟩
theorem w1_135 {a : Nat} {v : Value} : W (pj lw) 1 135 L (v :: .ref a :: S) k n H Q ↔ ((isOw H a = true ∧ okv (.int) v = true) ∧ W (pj lw) 1 138 L S k n (wr H a 2 v) Q) := W_putf (rfl : (pj lw).1 1 135 = some (.putfield 60, 3, 2))
theorem w1_138 : W (pj lw) 1 138 L S k n H Q ↔ W (pj lw) 1 139 L (.int 0 :: S) k n H Q := W_s (rfl : (pj lw).1 1 138 = some (.iconst 0, 1, 0)) rfl rfl rfl
theorem w1_139 {x : Int32} {l0 l1 l2 l3 : Slot} : W (pj lw) 1 139 (l0 :: l1 :: l2 :: l3 :: .unset :: L) (.int x :: S) k n H Q ↔ W (pj lw) 1 141 (l0 :: l1 :: l2 :: l3 :: .val (.int x) :: L) S k n H Q := W_ist (rfl : (pj lw).1 1 139 = some (.istore 4, 2, 0)) rfl rfl
theorem w1_141 {x : Int32} {l0 l1 l2 l3 : Slot} : W (pj lw) 1 141 (l0 :: l1 :: l2 :: l3 :: .val (.int x) :: L) S k n H Q ↔ W (pj lw) 1 143 (l0 :: l1 :: l2 :: l3 :: .val (.int x) :: L) (.int x :: S) k n H Q := W_s (rfl : (pj lw).1 1 141 = some (.iload 4, 2, 0)) rfl rfl rfl
theorem w1_143 : W (pj lw) 1 143 L S k n H Q ↔ W (pj lw) 1 145 L (.int 32 :: S) k n H Q := W_s (rfl : (pj lw).1 1 143 = some (.bipush 32, 2, 0)) rfl rfl rfl
theorem w1_145 {x y : Int32} : W (pj lw) 1 145 L (.int y :: .int x :: S) k n H Q ↔ (if x < y then W (pj lw) 1 148 L S k n H Q else W (pj lw) 1 162 L S k n H Q) := W_icmp_ge (rfl : (pj lw).1 1 145 = some (.if_icmp .ge 17, 3, 0)) rfl
theorem w1_148 {x : Nat} : W (pj lw) 1 148 (.val (.ref x) :: L) S k n H Q ↔ W (pj lw) 1 149 (.val (.ref x) :: L) (.ref x :: S) k n H Q := W_s (rfl : (pj lw).1 1 148 = some (.aload_n 0, 1, 0)) rfl rfl rfl
theorem w1_149 {a : Nat} : W (pj lw) 1 149 L (.ref a :: S) k n H Q ↔ (isO H a = true ∧ W (pj lw) 1 152 L (fld H a 18 :: S) k n H Q) := W_getf (rfl : (pj lw).1 1 149 = some (.getfield 46, 3, 18))
theorem w1_152 {x : Int32} {l0 l1 l2 l3 : Slot} : W (pj lw) 1 152 (l0 :: l1 :: l2 :: l3 :: .val (.int x) :: L) S k n H Q ↔ W (pj lw) 1 154 (l0 :: l1 :: l2 :: l3 :: .val (.int x) :: L) (.int x :: S) k n H Q := W_s (rfl : (pj lw).1 1 152 = some (.iload 4, 2, 0)) rfl rfl rfl
theorem w1_154 : W (pj lw) 1 154 L S k n H Q ↔ W (pj lw) 1 155 L (.int (-1) :: S) k n H Q := W_s (rfl : (pj lw).1 1 154 = some (.iconst (-1), 1, 0)) rfl rfl rfl
theorem w1_155 {x i : Int32} {a : Nat} : W (pj lw) 1 155 L (.int x :: .int i :: .ref a :: S) k n H Q ↔ (inAw H a .int i = true ∧ W (pj lw) 1 156 L S k n (wr H a i.toNatClampNeg (.int x)) Q) := W_iastore (rfl : (pj lw).1 1 155 = some (.iastore, 1, 0))
theorem w1_156 {x : Int32} {l0 l1 l2 l3 : Slot} : W (pj lw) 1 156 (l0 :: l1 :: l2 :: l3 :: .val (.int x) :: L) S k n H Q ↔ W (pj lw) 1 159 (l0 :: l1 :: l2 :: l3 :: .val (.int (x + 1)) :: L) S k n H Q := W_s (rfl : (pj lw).1 1 156 = some (.iinc 4 1, 3, 0)) rfl rfl rfl
theorem w1_159 : W (pj lw) 1 159 L S k n H Q ↔ W (pj lw) 1 141 L S k n H Q := W_goto (rfl : (pj lw).1 1 159 = some (.goto (-18), 3, 0)) rfl
theorem w1_162 : W (pj lw) 1 162 L [] k n H Q ↔ Q none H := W_r (rfl : (pj lw).1 1 162 = some (.return_, 1, 0)) rfl
theorem c2 {x0 : Nat} {x1 : Int32} {x2 : Int32} {x3 : Int32} : Cl (pj lw) 2 [.ref x0, .int x1, .int x2, .int x3] H Q ↔ W (pj lw) 2 0 [.val (.ref x0), .val (.int x1), .val (.int x2), .val (.int x3), .unset] [] 0 0 H Q := cl_unf rfl
theorem w2_0 {x : Nat} : W (pj lw) 2 0 (.val (.ref x) :: L) S k n H Q ↔ W (pj lw) 2 1 (.val (.ref x) :: L) (.ref x :: S) k n H Q := W_s (rfl : (pj lw).1 2 0 = some (.aload_n 0, 1, 0)) rfl rfl rfl
theorem w2_1 {a : Nat} : W (pj lw) 2 1 L (.ref a :: S) k n H Q ↔ (isO H a = true ∧ W (pj lw) 2 4 L (fld H a 4 :: S) k n H Q) := W_getf (rfl : (pj lw).1 2 1 = some (.getfield 63, 3, 4))
theorem w2_4 : W (pj lw) 2 4 L S k n H Q ↔ W (pj lw) 2 6 L (.int 32 :: S) k n H Q := W_s (rfl : (pj lw).1 2 4 = some (.bipush 32, 2, 0)) rfl rfl rfl
theorem w2_6 {x y : Int32} : W (pj lw) 2 6 L (.int y :: .int x :: S) k n H Q ↔ (if x < y then W (pj lw) 2 11 L S k n H Q else W (pj lw) 2 9 L S k n H Q) := W_icmp_lt (rfl : (pj lw).1 2 6 = some (.if_icmp .lt 5, 3, 0)) rfl
theorem w2_9 : W (pj lw) 2 9 L S k n H Q ↔ W (pj lw) 2 10 L (.int (-1) :: S) k n H Q := W_s (rfl : (pj lw).1 2 9 = some (.iconst (-1), 1, 0)) rfl rfl rfl
theorem w2_10 {x : Int32} : W (pj lw) 2 10 L (.int x :: S) k n H Q ↔ Q (some (.int x)) H := W_r (rfl : (pj lw).1 2 10 = some (.ireturn, 1, 0)) rfl
theorem w2_11 {x : Int32} {l0 l1 : Slot} : W (pj lw) 2 11 (l0 :: l1 :: .val (.int x) :: L) S k n H Q ↔ W (pj lw) 2 12 (l0 :: l1 :: .val (.int x) :: L) (.int x :: S) k n H Q := W_s (rfl : (pj lw).1 2 11 = some (.iload_n 2, 1, 0)) rfl rfl rfl
theorem w2_12 {x : Int32} : W (pj lw) 2 12 L (.int x :: S) k n H Q ↔ (if x < 0 then W (pj lw) 2 40 L S k n H Q else W (pj lw) 2 15 L S k n H Q) := W_if_lt (rfl : (pj lw).1 2 12 = some (.ifCond .lt 28, 3, 0)) rfl
theorem w2_15 {x : Int32} {l0 l1 : Slot} : W (pj lw) 2 15 (l0 :: l1 :: .val (.int x) :: L) S k n H Q ↔ W (pj lw) 2 16 (l0 :: l1 :: .val (.int x) :: L) (.int x :: S) k n H Q := W_s (rfl : (pj lw).1 2 15 = some (.iload_n 2, 1, 0)) rfl rfl rfl
theorem w2_16 {x : Nat} : W (pj lw) 2 16 (.val (.ref x) :: L) S k n H Q ↔ W (pj lw) 2 17 (.val (.ref x) :: L) (.ref x :: S) k n H Q := W_s (rfl : (pj lw).1 2 16 = some (.aload_n 0, 1, 0)) rfl rfl rfl
theorem w2_17 {a : Nat} : W (pj lw) 2 17 L (.ref a :: S) k n H Q ↔ (isO H a = true ∧ W (pj lw) 2 20 L (fld H a 1 :: S) k n H Q) := W_getf (rfl : (pj lw).1 2 17 = some (.getfield 57, 3, 1))
theorem w2_20 {x y : Int32} : W (pj lw) 2 20 L (.int y :: .int x :: S) k n H Q ↔ (if x < y then W (pj lw) 2 23 L S k n H Q else W (pj lw) 2 40 L S k n H Q) := W_icmp_ge (rfl : (pj lw).1 2 20 = some (.if_icmp .ge 20, 3, 0)) rfl
theorem w2_23 {x : Int32} {l0 l1 l2 : Slot} : W (pj lw) 2 23 (l0 :: l1 :: l2 :: .val (.int x) :: L) S k n H Q ↔ W (pj lw) 2 24 (l0 :: l1 :: l2 :: .val (.int x) :: L) (.int x :: S) k n H Q := W_s (rfl : (pj lw).1 2 23 = some (.iload_n 3, 1, 0)) rfl rfl rfl
theorem w2_24 {x : Int32} : W (pj lw) 2 24 L (.int x :: S) k n H Q ↔ (if x < 0 then W (pj lw) 2 40 L S k n H Q else W (pj lw) 2 27 L S k n H Q) := W_if_lt (rfl : (pj lw).1 2 24 = some (.ifCond .lt 16, 3, 0)) rfl
theorem w2_27 {x : Int32} {l0 l1 l2 : Slot} : W (pj lw) 2 27 (l0 :: l1 :: l2 :: .val (.int x) :: L) S k n H Q ↔ W (pj lw) 2 28 (l0 :: l1 :: l2 :: .val (.int x) :: L) (.int x :: S) k n H Q := W_s (rfl : (pj lw).1 2 27 = some (.iload_n 3, 1, 0)) rfl rfl rfl
theorem w2_28 {x : Nat} : W (pj lw) 2 28 (.val (.ref x) :: L) S k n H Q ↔ W (pj lw) 2 29 (.val (.ref x) :: L) (.ref x :: S) k n H Q := W_s (rfl : (pj lw).1 2 28 = some (.aload_n 0, 1, 0)) rfl rfl rfl
theorem w2_29 {a : Nat} : W (pj lw) 2 29 L (.ref a :: S) k n H Q ↔ (isO H a = true ∧ W (pj lw) 2 32 L (fld H a 1 :: S) k n H Q) := W_getf (rfl : (pj lw).1 2 29 = some (.getfield 57, 3, 1))
theorem w2_32 {x y : Int32} : W (pj lw) 2 32 L (.int y :: .int x :: S) k n H Q ↔ (if x < y then W (pj lw) 2 35 L S k n H Q else W (pj lw) 2 40 L S k n H Q) := W_icmp_ge (rfl : (pj lw).1 2 32 = some (.if_icmp .ge 8, 3, 0)) rfl
theorem w2_35 {x : Int32} {l0 l1 : Slot} : W (pj lw) 2 35 (l0 :: l1 :: .val (.int x) :: L) S k n H Q ↔ W (pj lw) 2 36 (l0 :: l1 :: .val (.int x) :: L) (.int x :: S) k n H Q := W_s (rfl : (pj lw).1 2 35 = some (.iload_n 2, 1, 0)) rfl rfl rfl
theorem w2_36 {x : Int32} {l0 l1 l2 : Slot} : W (pj lw) 2 36 (l0 :: l1 :: l2 :: .val (.int x) :: L) S k n H Q ↔ W (pj lw) 2 37 (l0 :: l1 :: l2 :: .val (.int x) :: L) (.int x :: S) k n H Q := W_s (rfl : (pj lw).1 2 36 = some (.iload_n 3, 1, 0)) rfl rfl rfl
theorem w2_37 {x y : Int32} : W (pj lw) 2 37 L (.int y :: .int x :: S) k n H Q ↔ (if x = y then W (pj lw) 2 40 L S k n H Q else W (pj lw) 2 43 L S k n H Q) := W_icmp_ne (rfl : (pj lw).1 2 37 = some (.if_icmp .ne 6, 3, 0)) rfl
theorem w2_40 : W (pj lw) 2 40 L S k n H Q ↔ W (pj lw) 2 42 L (.int (-2) :: S) k n H Q := W_s (rfl : (pj lw).1 2 40 = some (.bipush (-2), 2, 0)) rfl rfl rfl
theorem w2_42 {x : Int32} : W (pj lw) 2 42 L (.int x :: S) k n H Q ↔ Q (some (.int x)) H := W_r (rfl : (pj lw).1 2 42 = some (.ireturn, 1, 0)) rfl
theorem w2_43 {x : Int32} {l0 : Slot} : W (pj lw) 2 43 (l0 :: .val (.int x) :: L) S k n H Q ↔ W (pj lw) 2 44 (l0 :: .val (.int x) :: L) (.int x :: S) k n H Q := W_s (rfl : (pj lw).1 2 43 = some (.iload_n 1, 1, 0)) rfl rfl rfl
theorem w2_44 {x : Nat} : W (pj lw) 2 44 (.val (.ref x) :: L) S k n H Q ↔ W (pj lw) 2 45 (.val (.ref x) :: L) (.ref x :: S) k n H Q := W_s (rfl : (pj lw).1 2 44 = some (.aload_n 0, 1, 0)) rfl rfl rfl
theorem w2_45 {a : Nat} : W (pj lw) 2 45 L (.ref a :: S) k n H Q ↔ (isO H a = true ∧ W (pj lw) 2 48 L (fld H a 3 :: S) k n H Q) := W_getf (rfl : (pj lw).1 2 45 = some (.getfield 66, 3, 3))
theorem w2_48 {x y : Int32} : W (pj lw) 2 48 L (.int y :: .int x :: S) k n H Q ↔ (if x < y then W (pj lw) 2 51 L S k n H Q else W (pj lw) 2 54 L S k n H Q) := W_icmp_ge (rfl : (pj lw).1 2 48 = some (.if_icmp .ge 6, 3, 0)) rfl
theorem w2_51 : W (pj lw) 2 51 L S k n H Q ↔ W (pj lw) 2 53 L (.int (-3) :: S) k n H Q := W_s (rfl : (pj lw).1 2 51 = some (.bipush (-3), 2, 0)) rfl rfl rfl
theorem w2_53 {x : Int32} : W (pj lw) 2 53 L (.int x :: S) k n H Q ↔ Q (some (.int x)) H := W_r (rfl : (pj lw).1 2 53 = some (.ireturn, 1, 0)) rfl
theorem w2_54 {x : Nat} : W (pj lw) 2 54 (.val (.ref x) :: L) S k n H Q ↔ W (pj lw) 2 55 (.val (.ref x) :: L) (.ref x :: S) k n H Q := W_s (rfl : (pj lw).1 2 54 = some (.aload_n 0, 1, 0)) rfl rfl rfl
theorem w2_55 {a : Nat} : W (pj lw) 2 55 L (.ref a :: S) k n H Q ↔ (isO H a = true ∧ W (pj lw) 2 58 L (fld H a 4 :: S) k n H Q) := W_getf (rfl : (pj lw).1 2 55 = some (.getfield 63, 3, 4))
theorem w2_58 {x : Int32} {l0 l1 l2 l3 : Slot} : W (pj lw) 2 58 (l0 :: l1 :: l2 :: l3 :: .unset :: L) (.int x :: S) k n H Q ↔ W (pj lw) 2 60 (l0 :: l1 :: l2 :: l3 :: .val (.int x) :: L) S k n H Q := W_ist (rfl : (pj lw).1 2 58 = some (.istore 4, 2, 0)) rfl rfl
theorem w2_60 {x : Nat} : W (pj lw) 2 60 (.val (.ref x) :: L) S k n H Q ↔ W (pj lw) 2 61 (.val (.ref x) :: L) (.ref x :: S) k n H Q := W_s (rfl : (pj lw).1 2 60 = some (.aload_n 0, 1, 0)) rfl rfl rfl
theorem w2_61 {a : Nat} : W (pj lw) 2 61 L (.ref a :: S) k n H Q ↔ (isO H a = true ∧ W (pj lw) 2 64 L (fld H a 11 :: S) k n H Q) := W_getf (rfl : (pj lw).1 2 61 = some (.getfield 25, 3, 11))
theorem w2_64 {x : Int32} {l0 l1 l2 l3 : Slot} : W (pj lw) 2 64 (l0 :: l1 :: l2 :: l3 :: .val (.int x) :: L) S k n H Q ↔ W (pj lw) 2 66 (l0 :: l1 :: l2 :: l3 :: .val (.int x) :: L) (.int x :: S) k n H Q := W_s (rfl : (pj lw).1 2 64 = some (.iload 4, 2, 0)) rfl rfl rfl
theorem w2_66 : W (pj lw) 2 66 L S k n H Q ↔ W (pj lw) 2 67 L (.int 0 :: S) k n H Q := W_s (rfl : (pj lw).1 2 66 = some (.iconst 0, 1, 0)) rfl rfl rfl
theorem w2_67 {x i : Int32} {a : Nat} : W (pj lw) 2 67 L (.int x :: .int i :: .ref a :: S) k n H Q ↔ (inAw H a .int i = true ∧ W (pj lw) 2 68 L S k n (wr H a i.toNatClampNeg (.int x)) Q) := W_iastore (rfl : (pj lw).1 2 67 = some (.iastore, 1, 0))
theorem w2_68 {x : Nat} : W (pj lw) 2 68 (.val (.ref x) :: L) S k n H Q ↔ W (pj lw) 2 69 (.val (.ref x) :: L) (.ref x :: S) k n H Q := W_s (rfl : (pj lw).1 2 68 = some (.aload_n 0, 1, 0)) rfl rfl rfl
theorem w2_69 {a : Nat} : W (pj lw) 2 69 L (.ref a :: S) k n H Q ↔ (isO H a = true ∧ W (pj lw) 2 72 L (fld H a 12 :: S) k n H Q) := W_getf (rfl : (pj lw).1 2 69 = some (.getfield 28, 3, 12))
theorem w2_72 {x : Int32} {l0 l1 l2 l3 : Slot} : W (pj lw) 2 72 (l0 :: l1 :: l2 :: l3 :: .val (.int x) :: L) S k n H Q ↔ W (pj lw) 2 74 (l0 :: l1 :: l2 :: l3 :: .val (.int x) :: L) (.int x :: S) k n H Q := W_s (rfl : (pj lw).1 2 72 = some (.iload 4, 2, 0)) rfl rfl rfl
theorem w2_74 {x : Int32} {l0 l1 : Slot} : W (pj lw) 2 74 (l0 :: l1 :: .val (.int x) :: L) S k n H Q ↔ W (pj lw) 2 75 (l0 :: l1 :: .val (.int x) :: L) (.int x :: S) k n H Q := W_s (rfl : (pj lw).1 2 74 = some (.iload_n 2, 1, 0)) rfl rfl rfl
theorem w2_75 {x i : Int32} {a : Nat} : W (pj lw) 2 75 L (.int x :: .int i :: .ref a :: S) k n H Q ↔ (inAw H a .int i = true ∧ W (pj lw) 2 76 L S k n (wr H a i.toNatClampNeg (.int x)) Q) := W_iastore (rfl : (pj lw).1 2 75 = some (.iastore, 1, 0))
theorem w2_76 {x : Nat} : W (pj lw) 2 76 (.val (.ref x) :: L) S k n H Q ↔ W (pj lw) 2 77 (.val (.ref x) :: L) (.ref x :: S) k n H Q := W_s (rfl : (pj lw).1 2 76 = some (.aload_n 0, 1, 0)) rfl rfl rfl
theorem w2_77 {a : Nat} : W (pj lw) 2 77 L (.ref a :: S) k n H Q ↔ (isO H a = true ∧ W (pj lw) 2 80 L (fld H a 13 :: S) k n H Q) := W_getf (rfl : (pj lw).1 2 77 = some (.getfield 31, 3, 13))
theorem w2_80 {x : Int32} {l0 l1 l2 l3 : Slot} : W (pj lw) 2 80 (l0 :: l1 :: l2 :: l3 :: .val (.int x) :: L) S k n H Q ↔ W (pj lw) 2 82 (l0 :: l1 :: l2 :: l3 :: .val (.int x) :: L) (.int x :: S) k n H Q := W_s (rfl : (pj lw).1 2 80 = some (.iload 4, 2, 0)) rfl rfl rfl
theorem w2_82 {x : Int32} {l0 l1 l2 : Slot} : W (pj lw) 2 82 (l0 :: l1 :: l2 :: .val (.int x) :: L) S k n H Q ↔ W (pj lw) 2 83 (l0 :: l1 :: l2 :: .val (.int x) :: L) (.int x :: S) k n H Q := W_s (rfl : (pj lw).1 2 82 = some (.iload_n 3, 1, 0)) rfl rfl rfl
theorem w2_83 {x i : Int32} {a : Nat} : W (pj lw) 2 83 L (.int x :: .int i :: .ref a :: S) k n H Q ↔ (inAw H a .int i = true ∧ W (pj lw) 2 84 L S k n (wr H a i.toNatClampNeg (.int x)) Q) := W_iastore (rfl : (pj lw).1 2 83 = some (.iastore, 1, 0))
theorem w2_84 {x : Nat} : W (pj lw) 2 84 (.val (.ref x) :: L) S k n H Q ↔ W (pj lw) 2 85 (.val (.ref x) :: L) (.ref x :: S) k n H Q := W_s (rfl : (pj lw).1 2 84 = some (.aload_n 0, 1, 0)) rfl rfl rfl
theorem w2_85 {a : Nat} : W (pj lw) 2 85 L (.ref a :: S) k n H Q ↔ (isO H a = true ∧ W (pj lw) 2 88 L (fld H a 14 :: S) k n H Q) := W_getf (rfl : (pj lw).1 2 85 = some (.getfield 34, 3, 14))
theorem w2_88 {x : Int32} {l0 l1 l2 l3 : Slot} : W (pj lw) 2 88 (l0 :: l1 :: l2 :: l3 :: .val (.int x) :: L) S k n H Q ↔ W (pj lw) 2 90 (l0 :: l1 :: l2 :: l3 :: .val (.int x) :: L) (.int x :: S) k n H Q := W_s (rfl : (pj lw).1 2 88 = some (.iload 4, 2, 0)) rfl rfl rfl
theorem w2_90 {x : Int32} {l0 : Slot} : W (pj lw) 2 90 (l0 :: .val (.int x) :: L) S k n H Q ↔ W (pj lw) 2 91 (l0 :: .val (.int x) :: L) (.int x :: S) k n H Q := W_s (rfl : (pj lw).1 2 90 = some (.iload_n 1, 1, 0)) rfl rfl rfl
theorem w2_91 {x i : Int32} {a : Nat} : W (pj lw) 2 91 L (.int x :: .int i :: .ref a :: S) k n H Q ↔ (inAw H a .int i = true ∧ W (pj lw) 2 92 L S k n (wr H a i.toNatClampNeg (.int x)) Q) := W_iastore (rfl : (pj lw).1 2 91 = some (.iastore, 1, 0))
theorem w2_92 {x : Nat} : W (pj lw) 2 92 (.val (.ref x) :: L) S k n H Q ↔ W (pj lw) 2 93 (.val (.ref x) :: L) (.ref x :: S) k n H Q := W_s (rfl : (pj lw).1 2 92 = some (.aload_n 0, 1, 0)) rfl rfl rfl
theorem w2_93 {a : Nat} : W (pj lw) 2 93 L (.ref a :: S) k n H Q ↔ (isO H a = true ∧ W (pj lw) 2 96 L (fld H a 15 :: S) k n H Q) := W_getf (rfl : (pj lw).1 2 93 = some (.getfield 37, 3, 15))
theorem w2_96 {x : Int32} {l0 l1 l2 l3 : Slot} : W (pj lw) 2 96 (l0 :: l1 :: l2 :: l3 :: .val (.int x) :: L) S k n H Q ↔ W (pj lw) 2 98 (l0 :: l1 :: l2 :: l3 :: .val (.int x) :: L) (.int x :: S) k n H Q := W_s (rfl : (pj lw).1 2 96 = some (.iload 4, 2, 0)) rfl rfl rfl
theorem w2_98 : W (pj lw) 2 98 L S k n H Q ↔ W (pj lw) 2 99 L (.int (-1) :: S) k n H Q := W_s (rfl : (pj lw).1 2 98 = some (.iconst (-1), 1, 0)) rfl rfl rfl
theorem w2_99 {x i : Int32} {a : Nat} : W (pj lw) 2 99 L (.int x :: .int i :: .ref a :: S) k n H Q ↔ (inAw H a .int i = true ∧ W (pj lw) 2 100 L S k n (wr H a i.toNatClampNeg (.int x)) Q) := W_iastore (rfl : (pj lw).1 2 99 = some (.iastore, 1, 0))
theorem w2_100 {x : Nat} : W (pj lw) 2 100 (.val (.ref x) :: L) S k n H Q ↔ W (pj lw) 2 101 (.val (.ref x) :: L) (.ref x :: S) k n H Q := W_s (rfl : (pj lw).1 2 100 = some (.aload_n 0, 1, 0)) rfl rfl rfl
theorem w2_101 {a : Nat} : W (pj lw) 2 101 L (.ref a :: S) k n H Q ↔ (isO H a = true ∧ W (pj lw) 2 104 L (fld H a 16 :: S) k n H Q) := W_getf (rfl : (pj lw).1 2 101 = some (.getfield 40, 3, 16))
theorem w2_104 {x : Int32} {l0 l1 l2 l3 : Slot} : W (pj lw) 2 104 (l0 :: l1 :: l2 :: l3 :: .val (.int x) :: L) S k n H Q ↔ W (pj lw) 2 106 (l0 :: l1 :: l2 :: l3 :: .val (.int x) :: L) (.int x :: S) k n H Q := W_s (rfl : (pj lw).1 2 104 = some (.iload 4, 2, 0)) rfl rfl rfl
theorem w2_106 : W (pj lw) 2 106 L S k n H Q ↔ W (pj lw) 2 107 L (.int (-1) :: S) k n H Q := W_s (rfl : (pj lw).1 2 106 = some (.iconst (-1), 1, 0)) rfl rfl rfl
theorem w2_107 {x i : Int32} {a : Nat} : W (pj lw) 2 107 L (.int x :: .int i :: .ref a :: S) k n H Q ↔ (inAw H a .int i = true ∧ W (pj lw) 2 108 L S k n (wr H a i.toNatClampNeg (.int x)) Q) := W_iastore (rfl : (pj lw).1 2 107 = some (.iastore, 1, 0))
theorem w2_108 {x : Nat} : W (pj lw) 2 108 (.val (.ref x) :: L) S k n H Q ↔ W (pj lw) 2 109 (.val (.ref x) :: L) (.ref x :: S) k n H Q := W_s (rfl : (pj lw).1 2 108 = some (.aload_n 0, 1, 0)) rfl rfl rfl
theorem w2_109 {a : Nat} : W (pj lw) 2 109 L (.ref a :: S) k n H Q ↔ (isO H a = true ∧ W (pj lw) 2 112 L (fld H a 17 :: S) k n H Q) := W_getf (rfl : (pj lw).1 2 109 = some (.getfield 43, 3, 17))
theorem w2_112 {x : Int32} {l0 l1 l2 l3 : Slot} : W (pj lw) 2 112 (l0 :: l1 :: l2 :: l3 :: .val (.int x) :: L) S k n H Q ↔ W (pj lw) 2 114 (l0 :: l1 :: l2 :: l3 :: .val (.int x) :: L) (.int x :: S) k n H Q := W_s (rfl : (pj lw).1 2 112 = some (.iload 4, 2, 0)) rfl rfl rfl
theorem w2_114 : W (pj lw) 2 114 L S k n H Q ↔ W (pj lw) 2 115 L (.int (-1) :: S) k n H Q := W_s (rfl : (pj lw).1 2 114 = some (.iconst (-1), 1, 0)) rfl rfl rfl
theorem w2_115 {x i : Int32} {a : Nat} : W (pj lw) 2 115 L (.int x :: .int i :: .ref a :: S) k n H Q ↔ (inAw H a .int i = true ∧ W (pj lw) 2 116 L S k n (wr H a i.toNatClampNeg (.int x)) Q) := W_iastore (rfl : (pj lw).1 2 115 = some (.iastore, 1, 0))
theorem w2_116 {x : Nat} : W (pj lw) 2 116 (.val (.ref x) :: L) S k n H Q ↔ W (pj lw) 2 117 (.val (.ref x) :: L) (.ref x :: S) k n H Q := W_s (rfl : (pj lw).1 2 116 = some (.aload_n 0, 1, 0)) rfl rfl rfl
theorem w2_117 {x : Int32} {l0 l1 l2 l3 : Slot} : W (pj lw) 2 117 (l0 :: l1 :: l2 :: l3 :: .val (.int x) :: L) S k n H Q ↔ W (pj lw) 2 119 (l0 :: l1 :: l2 :: l3 :: .val (.int x) :: L) (.int x :: S) k n H Q := W_s (rfl : (pj lw).1 2 117 = some (.iload 4, 2, 0)) rfl rfl rfl
theorem w2_119 : W (pj lw) 2 119 L S k n H Q ↔ W (pj lw) 2 120 L (.int 1 :: S) k n H Q := W_s (rfl : (pj lw).1 2 119 = some (.iconst 1, 1, 0)) rfl rfl rfl
theorem w2_120 {x y : Int32} : W (pj lw) 2 120 L (.int y :: .int x :: S) k n H Q ↔ W (pj lw) 2 121 L (.int (x + y) :: S) k n H Q := W_s (rfl : (pj lw).1 2 120 = some (.iadd, 1, 0)) rfl rfl rfl
theorem w2_121 {a : Nat} {v : Value} : W (pj lw) 2 121 L (v :: .ref a :: S) k n H Q ↔ ((isOw H a = true ∧ okv (.int) v = true) ∧ W (pj lw) 2 124 L S k n (wr H a 4 v) Q) := W_putf (rfl : (pj lw).1 2 121 = some (.putfield 63, 3, 4))
theorem w2_124 {x : Int32} {l0 l1 l2 l3 : Slot} : W (pj lw) 2 124 (l0 :: l1 :: l2 :: l3 :: .val (.int x) :: L) S k n H Q ↔ W (pj lw) 2 126 (l0 :: l1 :: l2 :: l3 :: .val (.int x) :: L) (.int x :: S) k n H Q := W_s (rfl : (pj lw).1 2 124 = some (.iload 4, 2, 0)) rfl rfl rfl
theorem w2_126 {x : Int32} : W (pj lw) 2 126 L (.int x :: S) k n H Q ↔ Q (some (.int x)) H := W_r (rfl : (pj lw).1 2 126 = some (.ireturn, 1, 0)) rfl
theorem c4 {x0 : Nat} {x1 : Int32} : Cl (pj lw) 4 [.ref x0, .int x1] H Q ↔ W (pj lw) 4 0 [.val (.ref x0), .val (.int x1), .unset, .unset] [] 0 0 H Q := cl_unf rfl
theorem w4_0 {x : Nat} : W (pj lw) 4 0 (.val (.ref x) :: L) S k n H Q ↔ W (pj lw) 4 1 (.val (.ref x) :: L) (.ref x :: S) k n H Q := W_s (rfl : (pj lw).1 4 0 = some (.aload_n 0, 1, 0)) rfl rfl rfl
theorem w4_1 {x : Int32} {l0 : Slot} : W (pj lw) 4 1 (l0 :: .val (.int x) :: L) S k n H Q ↔ W (pj lw) 4 2 (l0 :: .val (.int x) :: L) (.int x :: S) k n H Q := W_s (rfl : (pj lw).1 4 1 = some (.iload_n 1, 1, 0)) rfl rfl rfl
theorem w4_2 : W (pj lw) 4 2 L S k n H Q ↔ W (pj lw) 4 3 L (.int 1 :: S) k n H Q := W_s (rfl : (pj lw).1 4 2 = some (.iconst 1, 1, 0)) rfl rfl rfl
theorem w4_3 : W (pj lw) 4 3 L S k n H Q ↔ W (pj lw) 4 5 L (.int 32 :: S) k n H Q := W_s (rfl : (pj lw).1 4 3 = some (.bipush 32, 2, 0)) rfl rfl rfl
theorem w4_5 {a : Nat} {x0 : Int32} {x1 : Int32} {x2 : Int32} : W (pj lw) 4 5 L (.int x2 :: .int x1 :: .int x0 :: .ref a :: S) k n H Q ↔ ((isO H a = true ∧ cs S + (4 + 11) + 0 ≤ 132) ∧ Cl (pj lw) 15 [.ref a, .int x0, .int x1, .int x2] H (fun v H => W (pj lw) 4 8 L (v.toList ++ S) k n H Q)) := W_inst (as := [.int x0, .int x1, .int x2]) (rfl : (pj lw).1 4 5 = some (.invokevirtual 49, 3, 15)) rfl rfl rfl (Nat.le_of_ble_eq_true rfl) (Nat.le_of_ble_eq_true rfl) ⟨rfl, rfl⟩
theorem w4_8 {x : Int32} {l0 l1 : Slot} : W (pj lw) 4 8 (l0 :: l1 :: .unset :: L) (.int x :: S) k n H Q ↔ W (pj lw) 4 9 (l0 :: l1 :: .val (.int x) :: L) S k n H Q := W_istn (rfl : (pj lw).1 4 8 = some (.istore_n 2, 1, 0)) rfl rfl
theorem w4_9 {x : Nat} : W (pj lw) 4 9 (.val (.ref x) :: L) S k n H Q ↔ W (pj lw) 4 10 (.val (.ref x) :: L) (.ref x :: S) k n H Q := W_s (rfl : (pj lw).1 4 9 = some (.aload_n 0, 1, 0)) rfl rfl rfl
theorem w4_10 : W (pj lw) 4 10 L S k n H Q ↔ W (pj lw) 4 11 L (.int 0 :: S) k n H Q := W_s (rfl : (pj lw).1 4 10 = some (.iconst 0, 1, 0)) rfl rfl rfl
theorem w4_11 {a : Nat} {v : Value} : W (pj lw) 4 11 L (v :: .ref a :: S) k n H Q ↔ ((isOw H a = true ∧ okv (.int) v = true) ∧ W (pj lw) 4 14 L S k n (wr H a 5 v) Q) := W_putf (rfl : (pj lw).1 4 11 = some (.putfield 73, 3, 5))
theorem w4_14 : W (pj lw) 4 14 L S k n H Q ↔ W (pj lw) 4 15 L (.int 0 :: S) k n H Q := W_s (rfl : (pj lw).1 4 14 = some (.iconst 0, 1, 0)) rfl rfl rfl
theorem w4_15 {x : Int32} {l0 l1 l2 : Slot} : W (pj lw) 4 15 (l0 :: l1 :: l2 :: .unset :: L) (.int x :: S) k n H Q ↔ W (pj lw) 4 16 (l0 :: l1 :: l2 :: .val (.int x) :: L) S k n H Q := W_istn (rfl : (pj lw).1 4 15 = some (.istore_n 3, 1, 0)) rfl rfl
theorem w4_16 {x : Int32} {l0 l1 l2 : Slot} : W (pj lw) 4 16 (l0 :: l1 :: l2 :: .val (.int x) :: L) S k n H Q ↔ W (pj lw) 4 17 (l0 :: l1 :: l2 :: .val (.int x) :: L) (.int x :: S) k n H Q := W_s (rfl : (pj lw).1 4 16 = some (.iload_n 3, 1, 0)) rfl rfl rfl
theorem w4_17 {x : Int32} {l0 l1 : Slot} : W (pj lw) 4 17 (l0 :: l1 :: .val (.int x) :: L) S k n H Q ↔ W (pj lw) 4 18 (l0 :: l1 :: .val (.int x) :: L) (.int x :: S) k n H Q := W_s (rfl : (pj lw).1 4 17 = some (.iload_n 2, 1, 0)) rfl rfl rfl
theorem w4_18 {x y : Int32} : W (pj lw) 4 18 L (.int y :: .int x :: S) k n H Q ↔ (if x < y then W (pj lw) 4 21 L S k n H Q else W (pj lw) 4 31 L S k n H Q) := W_icmp_ge (rfl : (pj lw).1 4 18 = some (.if_icmp .ge 13, 3, 0)) rfl
theorem w4_21 {x : Nat} : W (pj lw) 4 21 (.val (.ref x) :: L) S k n H Q ↔ W (pj lw) 4 22 (.val (.ref x) :: L) (.ref x :: S) k n H Q := W_s (rfl : (pj lw).1 4 21 = some (.aload_n 0, 1, 0)) rfl rfl rfl
theorem w4_22 {a : Nat} : W (pj lw) 4 22 L (.ref a :: S) k n H Q ↔ ((isO H a = true ∧ cs S + (2 + 11) + 119 ≤ 132) ∧ Cl (pj lw) 26 [.ref a] H (fun v H => W (pj lw) 4 25 L (v.toList ++ S) k n H Q)) := W_inst (as := []) (rfl : (pj lw).1 4 22 = some (.invokevirtual 76, 3, 26)) rfl rfl rfl (Nat.le_of_ble_eq_true rfl) (Nat.le_of_ble_eq_true rfl) ⟨rfl, rfl⟩
theorem w4_25 {x : Int32} {l0 l1 l2 : Slot} : W (pj lw) 4 25 (l0 :: l1 :: l2 :: .val (.int x) :: L) S k n H Q ↔ W (pj lw) 4 28 (l0 :: l1 :: l2 :: .val (.int (x + 1)) :: L) S k n H Q := W_s (rfl : (pj lw).1 4 25 = some (.iinc 3 1, 3, 0)) rfl rfl rfl
theorem w4_28 : W (pj lw) 4 28 L S k n H Q ↔ W (pj lw) 4 16 L S k n H Q := W_goto (rfl : (pj lw).1 4 28 = some (.goto (-12), 3, 0)) rfl
theorem w4_31 {x : Nat} : W (pj lw) 4 31 (.val (.ref x) :: L) S k n H Q ↔ W (pj lw) 4 32 (.val (.ref x) :: L) (.ref x :: S) k n H Q := W_s (rfl : (pj lw).1 4 31 = some (.aload_n 0, 1, 0)) rfl rfl rfl
theorem w4_32 {a : Nat} : W (pj lw) 4 32 L (.ref a :: S) k n H Q ↔ (isO H a = true ∧ W (pj lw) 4 35 L (fld H a 5 :: S) k n H Q) := W_getf (rfl : (pj lw).1 4 32 = some (.getfield 73, 3, 5))
theorem w4_35 {x : Int32} : W (pj lw) 4 35 L (.int x :: S) k n H Q ↔ Q (some (.int x)) H := W_r (rfl : (pj lw).1 4 35 = some (.ireturn, 1, 0)) rfl
theorem c5 {x0 : Nat} : Cl (pj lw) 5 [.ref x0] H Q ↔ W (pj lw) 5 0 [.val (.ref x0)] [] 0 0 H Q := cl_unf rfl
theorem w5_0 {x : Nat} : W (pj lw) 5 0 (.val (.ref x) :: L) S k n H Q ↔ W (pj lw) 5 1 (.val (.ref x) :: L) (.ref x :: S) k n H Q := W_s (rfl : (pj lw).1 5 0 = some (.aload_n 0, 1, 0)) rfl rfl rfl
theorem w5_1 {a : Nat} : W (pj lw) 5 1 L (.ref a :: S) k n H Q ↔ (isO H a = true ∧ W (pj lw) 5 4 L (fld H a 3 :: S) k n H Q) := W_getf (rfl : (pj lw).1 5 1 = some (.getfield 66, 3, 3))
theorem w5_4 {x : Int32} : W (pj lw) 5 4 L (.int x :: S) k n H Q ↔ Q (some (.int x)) H := W_r (rfl : (pj lw).1 5 4 = some (.ireturn, 1, 0)) rfl
theorem c6 {x0 : Nat} : Cl (pj lw) 6 [.ref x0] H Q ↔ W (pj lw) 6 0 [.val (.ref x0)] [] 0 0 H Q := cl_unf rfl
theorem w6_0 {x : Nat} : W (pj lw) 6 0 (.val (.ref x) :: L) S k n H Q ↔ W (pj lw) 6 1 (.val (.ref x) :: L) (.ref x :: S) k n H Q := W_s (rfl : (pj lw).1 6 0 = some (.aload_n 0, 1, 0)) rfl rfl rfl
theorem w6_1 {a : Nat} : W (pj lw) 6 1 L (.ref a :: S) k n H Q ↔ (isO H a = true ∧ W (pj lw) 6 4 L (fld H a 4 :: S) k n H Q) := W_getf (rfl : (pj lw).1 6 1 = some (.getfield 63, 3, 4))
theorem w6_4 {x : Int32} : W (pj lw) 6 4 L (.int x :: S) k n H Q ↔ Q (some (.int x)) H := W_r (rfl : (pj lw).1 6 4 = some (.ireturn, 1, 0)) rfl
theorem c7 {x0 : Nat} : Cl (pj lw) 7 [.ref x0] H Q ↔ W (pj lw) 7 0 [.val (.ref x0), .unset, .unset] [] 0 0 H Q := cl_unf rfl
theorem w7_0 : W (pj lw) 7 0 L S k n H Q ↔ W (pj lw) 7 1 L (.int 0 :: S) k n H Q := W_s (rfl : (pj lw).1 7 0 = some (.iconst 0, 1, 0)) rfl rfl rfl
theorem w7_1 {x : Int32} {l0 : Slot} : W (pj lw) 7 1 (l0 :: .unset :: L) (.int x :: S) k n H Q ↔ W (pj lw) 7 2 (l0 :: .val (.int x) :: L) S k n H Q := W_istn (rfl : (pj lw).1 7 1 = some (.istore_n 1, 1, 0)) rfl rfl
theorem w7_2 : W (pj lw) 7 2 L S k n H Q ↔ W (pj lw) 7 3 L (.int 0 :: S) k n H Q := W_s (rfl : (pj lw).1 7 2 = some (.iconst 0, 1, 0)) rfl rfl rfl
theorem w7_3 {x : Int32} {l0 l1 : Slot} : W (pj lw) 7 3 (l0 :: l1 :: .unset :: L) (.int x :: S) k n H Q ↔ W (pj lw) 7 4 (l0 :: l1 :: .val (.int x) :: L) S k n H Q := W_istn (rfl : (pj lw).1 7 3 = some (.istore_n 2, 1, 0)) rfl rfl
theorem w7_4 {x : Int32} {l0 l1 : Slot} : W (pj lw) 7 4 (l0 :: l1 :: .val (.int x) :: L) S k n H Q ↔ W (pj lw) 7 5 (l0 :: l1 :: .val (.int x) :: L) (.int x :: S) k n H Q := W_s (rfl : (pj lw).1 7 4 = some (.iload_n 2, 1, 0)) rfl rfl rfl
theorem w7_5 {x : Nat} : W (pj lw) 7 5 (.val (.ref x) :: L) S k n H Q ↔ W (pj lw) 7 6 (.val (.ref x) :: L) (.ref x :: S) k n H Q := W_s (rfl : (pj lw).1 7 5 = some (.aload_n 0, 1, 0)) rfl rfl rfl
theorem w7_6 {a : Nat} : W (pj lw) 7 6 L (.ref a :: S) k n H Q ↔ (isO H a = true ∧ W (pj lw) 7 9 L (fld H a 4 :: S) k n H Q) := W_getf (rfl : (pj lw).1 7 6 = some (.getfield 63, 3, 4))
theorem w7_9 {x y : Int32} : W (pj lw) 7 9 L (.int y :: .int x :: S) k n H Q ↔ (if x < y then W (pj lw) 7 12 L S k n H Q else W (pj lw) 7 31 L S k n H Q) := W_icmp_ge (rfl : (pj lw).1 7 9 = some (.if_icmp .ge 22, 3, 0)) rfl
theorem w7_12 {x : Nat} : W (pj lw) 7 12 (.val (.ref x) :: L) S k n H Q ↔ W (pj lw) 7 13 (.val (.ref x) :: L) (.ref x :: S) k n H Q := W_s (rfl : (pj lw).1 7 12 = some (.aload_n 0, 1, 0)) rfl rfl rfl
theorem w7_13 {a : Nat} : W (pj lw) 7 13 L (.ref a :: S) k n H Q ↔ (isO H a = true ∧ W (pj lw) 7 16 L (fld H a 11 :: S) k n H Q) := W_getf (rfl : (pj lw).1 7 13 = some (.getfield 25, 3, 11))
theorem w7_16 {x : Int32} {l0 l1 : Slot} : W (pj lw) 7 16 (l0 :: l1 :: .val (.int x) :: L) S k n H Q ↔ W (pj lw) 7 17 (l0 :: l1 :: .val (.int x) :: L) (.int x :: S) k n H Q := W_s (rfl : (pj lw).1 7 16 = some (.iload_n 2, 1, 0)) rfl rfl rfl
theorem w7_17 {i : Int32} {a : Nat} : W (pj lw) 7 17 L (.int i :: .ref a :: S) k n H Q ↔ (inA H a .int i = true ∧ W (pj lw) 7 18 L (elt H a i :: S) k n H Q) := W_iaload (rfl : (pj lw).1 7 17 = some (.iaload, 1, 0))
theorem w7_18 : W (pj lw) 7 18 L S k n H Q ↔ W (pj lw) 7 19 L (.int 3 :: S) k n H Q := W_s (rfl : (pj lw).1 7 18 = some (.iconst 3, 1, 0)) rfl rfl rfl
theorem w7_19 {x y : Int32} : W (pj lw) 7 19 L (.int y :: .int x :: S) k n H Q ↔ (if x = y then W (pj lw) 7 22 L S k n H Q else W (pj lw) 7 25 L S k n H Q) := W_icmp_ne (rfl : (pj lw).1 7 19 = some (.if_icmp .ne 6, 3, 0)) rfl
theorem w7_22 {x : Int32} {l0 : Slot} : W (pj lw) 7 22 (l0 :: .val (.int x) :: L) S k n H Q ↔ W (pj lw) 7 25 (l0 :: .val (.int (x + 1)) :: L) S k n H Q := W_s (rfl : (pj lw).1 7 22 = some (.iinc 1 1, 3, 0)) rfl rfl rfl
theorem w7_25 {x : Int32} {l0 l1 : Slot} : W (pj lw) 7 25 (l0 :: l1 :: .val (.int x) :: L) S k n H Q ↔ W (pj lw) 7 28 (l0 :: l1 :: .val (.int (x + 1)) :: L) S k n H Q := W_s (rfl : (pj lw).1 7 25 = some (.iinc 2 1, 3, 0)) rfl rfl rfl
theorem w7_28 : W (pj lw) 7 28 L S k n H Q ↔ W (pj lw) 7 4 L S k n H Q := W_goto (rfl : (pj lw).1 7 28 = some (.goto (-24), 3, 0)) rfl
theorem w7_31 {x : Int32} {l0 : Slot} : W (pj lw) 7 31 (l0 :: .val (.int x) :: L) S k n H Q ↔ W (pj lw) 7 32 (l0 :: .val (.int x) :: L) (.int x :: S) k n H Q := W_s (rfl : (pj lw).1 7 31 = some (.iload_n 1, 1, 0)) rfl rfl rfl
theorem w7_32 {x : Int32} : W (pj lw) 7 32 L (.int x :: S) k n H Q ↔ Q (some (.int x)) H := W_r (rfl : (pj lw).1 7 32 = some (.ireturn, 1, 0)) rfl
theorem c8 {x0 : Nat} {x1 : Int32} {x2 : Int32} : Cl (pj lw) 8 [.ref x0, .int x1, .int x2] H Q ↔ W (pj lw) 8 0 [.val (.ref x0), .val (.int x1), .val (.int x2)] [] 0 0 H Q := cl_unf rfl
theorem w8_0 {x : Int32} {l0 : Slot} : W (pj lw) 8 0 (l0 :: .val (.int x) :: L) S k n H Q ↔ W (pj lw) 8 1 (l0 :: .val (.int x) :: L) (.int x :: S) k n H Q := W_s (rfl : (pj lw).1 8 0 = some (.iload_n 1, 1, 0)) rfl rfl rfl
theorem w8_1 {x : Int32} : W (pj lw) 8 1 L (.int x :: S) k n H Q ↔ (if x < 0 then W (pj lw) 8 12 L S k n H Q else W (pj lw) 8 4 L S k n H Q) := W_if_lt (rfl : (pj lw).1 8 1 = some (.ifCond .lt 11, 3, 0)) rfl
theorem w8_4 {x : Int32} {l0 : Slot} : W (pj lw) 8 4 (l0 :: .val (.int x) :: L) S k n H Q ↔ W (pj lw) 8 5 (l0 :: .val (.int x) :: L) (.int x :: S) k n H Q := W_s (rfl : (pj lw).1 8 4 = some (.iload_n 1, 1, 0)) rfl rfl rfl
theorem w8_5 {x : Nat} : W (pj lw) 8 5 (.val (.ref x) :: L) S k n H Q ↔ W (pj lw) 8 6 (.val (.ref x) :: L) (.ref x :: S) k n H Q := W_s (rfl : (pj lw).1 8 5 = some (.aload_n 0, 1, 0)) rfl rfl rfl
theorem w8_6 {a : Nat} : W (pj lw) 8 6 L (.ref a :: S) k n H Q ↔ (isO H a = true ∧ W (pj lw) 8 9 L (fld H a 0 :: S) k n H Q) := W_getf (rfl : (pj lw).1 8 6 = some (.getfield 53, 3, 0))
theorem w8_9 {x y : Int32} : W (pj lw) 8 9 L (.int y :: .int x :: S) k n H Q ↔ (if x < y then W (pj lw) 8 15 L S k n H Q else W (pj lw) 8 12 L S k n H Q) := W_icmp_lt (rfl : (pj lw).1 8 9 = some (.if_icmp .lt 6, 3, 0)) rfl
theorem w8_12 : W (pj lw) 8 12 L S k n H Q ↔ W (pj lw) 8 14 L (.int (-99) :: S) k n H Q := W_s (rfl : (pj lw).1 8 12 = some (.bipush (-99), 2, 0)) rfl rfl rfl
theorem w8_14 {x : Int32} : W (pj lw) 8 14 L (.int x :: S) k n H Q ↔ Q (some (.int x)) H := W_r (rfl : (pj lw).1 8 14 = some (.ireturn, 1, 0)) rfl
theorem w8_15 {x : Int32} {l0 l1 : Slot} : W (pj lw) 8 15 (l0 :: l1 :: .val (.int x) :: L) S k n H Q ↔ W (pj lw) 8 16 (l0 :: l1 :: .val (.int x) :: L) (.int x :: S) k n H Q := W_s (rfl : (pj lw).1 8 15 = some (.iload_n 2, 1, 0)) rfl rfl rfl
theorem w8_16 {x : Int32} : W (pj lw) 8 16 L (.int x :: S) k n H Q ↔ (if x = 0 then W (pj lw) 8 19 L S k n H Q else W (pj lw) 8 26 L S k n H Q) := W_if_ne (rfl : (pj lw).1 8 16 = some (.ifCond .ne 10, 3, 0)) rfl
theorem w8_19 {x : Nat} : W (pj lw) 8 19 (.val (.ref x) :: L) S k n H Q ↔ W (pj lw) 8 20 (.val (.ref x) :: L) (.ref x :: S) k n H Q := W_s (rfl : (pj lw).1 8 19 = some (.aload_n 0, 1, 0)) rfl rfl rfl
theorem w8_20 {a : Nat} : W (pj lw) 8 20 L (.ref a :: S) k n H Q ↔ (isO H a = true ∧ W (pj lw) 8 23 L (fld H a 6 :: S) k n H Q) := W_getf (rfl : (pj lw).1 8 20 = some (.getfield 7, 3, 6))
theorem w8_23 {x : Int32} {l0 : Slot} : W (pj lw) 8 23 (l0 :: .val (.int x) :: L) S k n H Q ↔ W (pj lw) 8 24 (l0 :: .val (.int x) :: L) (.int x :: S) k n H Q := W_s (rfl : (pj lw).1 8 23 = some (.iload_n 1, 1, 0)) rfl rfl rfl
theorem w8_24 {i : Int32} {a : Nat} : W (pj lw) 8 24 L (.int i :: .ref a :: S) k n H Q ↔ (inA H a .int i = true ∧ W (pj lw) 8 25 L (elt H a i :: S) k n H Q) := W_iaload (rfl : (pj lw).1 8 24 = some (.iaload, 1, 0))
theorem w8_25 {x : Int32} : W (pj lw) 8 25 L (.int x :: S) k n H Q ↔ Q (some (.int x)) H := W_r (rfl : (pj lw).1 8 25 = some (.ireturn, 1, 0)) rfl
theorem w8_26 {x : Int32} {l0 l1 : Slot} : W (pj lw) 8 26 (l0 :: l1 :: .val (.int x) :: L) S k n H Q ↔ W (pj lw) 8 27 (l0 :: l1 :: .val (.int x) :: L) (.int x :: S) k n H Q := W_s (rfl : (pj lw).1 8 26 = some (.iload_n 2, 1, 0)) rfl rfl rfl
theorem w8_27 : W (pj lw) 8 27 L S k n H Q ↔ W (pj lw) 8 28 L (.int 1 :: S) k n H Q := W_s (rfl : (pj lw).1 8 27 = some (.iconst 1, 1, 0)) rfl rfl rfl
theorem w8_28 {x y : Int32} : W (pj lw) 8 28 L (.int y :: .int x :: S) k n H Q ↔ (if x = y then W (pj lw) 8 31 L S k n H Q else W (pj lw) 8 38 L S k n H Q) := W_icmp_ne (rfl : (pj lw).1 8 28 = some (.if_icmp .ne 10, 3, 0)) rfl
theorem w8_31 {x : Nat} : W (pj lw) 8 31 (.val (.ref x) :: L) S k n H Q ↔ W (pj lw) 8 32 (.val (.ref x) :: L) (.ref x :: S) k n H Q := W_s (rfl : (pj lw).1 8 31 = some (.aload_n 0, 1, 0)) rfl rfl rfl
theorem w8_32 {a : Nat} : W (pj lw) 8 32 L (.ref a :: S) k n H Q ↔ (isO H a = true ∧ W (pj lw) 8 35 L (fld H a 7 :: S) k n H Q) := W_getf (rfl : (pj lw).1 8 32 = some (.getfield 13, 3, 7))
theorem w8_35 {x : Int32} {l0 : Slot} : W (pj lw) 8 35 (l0 :: .val (.int x) :: L) S k n H Q ↔ W (pj lw) 8 36 (l0 :: .val (.int x) :: L) (.int x :: S) k n H Q := W_s (rfl : (pj lw).1 8 35 = some (.iload_n 1, 1, 0)) rfl rfl rfl
theorem w8_36 {i : Int32} {a : Nat} : W (pj lw) 8 36 L (.int i :: .ref a :: S) k n H Q ↔ (inA H a .int i = true ∧ W (pj lw) 8 37 L (elt H a i :: S) k n H Q) := W_iaload (rfl : (pj lw).1 8 36 = some (.iaload, 1, 0))
theorem w8_37 {x : Int32} : W (pj lw) 8 37 L (.int x :: S) k n H Q ↔ Q (some (.int x)) H := W_r (rfl : (pj lw).1 8 37 = some (.ireturn, 1, 0)) rfl
theorem w8_38 {x : Int32} {l0 l1 : Slot} : W (pj lw) 8 38 (l0 :: l1 :: .val (.int x) :: L) S k n H Q ↔ W (pj lw) 8 39 (l0 :: l1 :: .val (.int x) :: L) (.int x :: S) k n H Q := W_s (rfl : (pj lw).1 8 38 = some (.iload_n 2, 1, 0)) rfl rfl rfl
theorem w8_39 : W (pj lw) 8 39 L S k n H Q ↔ W (pj lw) 8 40 L (.int 2 :: S) k n H Q := W_s (rfl : (pj lw).1 8 39 = some (.iconst 2, 1, 0)) rfl rfl rfl
theorem w8_40 {x y : Int32} : W (pj lw) 8 40 L (.int y :: .int x :: S) k n H Q ↔ (if x = y then W (pj lw) 8 43 L S k n H Q else W (pj lw) 8 50 L S k n H Q) := W_icmp_ne (rfl : (pj lw).1 8 40 = some (.if_icmp .ne 10, 3, 0)) rfl
theorem w8_43 {x : Nat} : W (pj lw) 8 43 (.val (.ref x) :: L) S k n H Q ↔ W (pj lw) 8 44 (.val (.ref x) :: L) (.ref x :: S) k n H Q := W_s (rfl : (pj lw).1 8 43 = some (.aload_n 0, 1, 0)) rfl rfl rfl
theorem w8_44 {a : Nat} : W (pj lw) 8 44 L (.ref a :: S) k n H Q ↔ (isO H a = true ∧ W (pj lw) 8 47 L (fld H a 8 :: S) k n H Q) := W_getf (rfl : (pj lw).1 8 44 = some (.getfield 16, 3, 8))
theorem w8_47 {x : Int32} {l0 : Slot} : W (pj lw) 8 47 (l0 :: .val (.int x) :: L) S k n H Q ↔ W (pj lw) 8 48 (l0 :: .val (.int x) :: L) (.int x :: S) k n H Q := W_s (rfl : (pj lw).1 8 47 = some (.iload_n 1, 1, 0)) rfl rfl rfl
theorem w8_48 {i : Int32} {a : Nat} : W (pj lw) 8 48 L (.int i :: .ref a :: S) k n H Q ↔ (inA H a .int i = true ∧ W (pj lw) 8 49 L (elt H a i :: S) k n H Q) := W_iaload (rfl : (pj lw).1 8 48 = some (.iaload, 1, 0))
theorem w8_49 {x : Int32} : W (pj lw) 8 49 L (.int x :: S) k n H Q ↔ Q (some (.int x)) H := W_r (rfl : (pj lw).1 8 49 = some (.ireturn, 1, 0)) rfl
theorem w8_50 {x : Int32} {l0 l1 : Slot} : W (pj lw) 8 50 (l0 :: l1 :: .val (.int x) :: L) S k n H Q ↔ W (pj lw) 8 51 (l0 :: l1 :: .val (.int x) :: L) (.int x :: S) k n H Q := W_s (rfl : (pj lw).1 8 50 = some (.iload_n 2, 1, 0)) rfl rfl rfl
theorem w8_51 : W (pj lw) 8 51 L S k n H Q ↔ W (pj lw) 8 52 L (.int 3 :: S) k n H Q := W_s (rfl : (pj lw).1 8 51 = some (.iconst 3, 1, 0)) rfl rfl rfl
theorem w8_52 {x y : Int32} : W (pj lw) 8 52 L (.int y :: .int x :: S) k n H Q ↔ (if x = y then W (pj lw) 8 55 L S k n H Q else W (pj lw) 8 62 L S k n H Q) := W_icmp_ne (rfl : (pj lw).1 8 52 = some (.if_icmp .ne 10, 3, 0)) rfl
theorem w8_55 {x : Nat} : W (pj lw) 8 55 (.val (.ref x) :: L) S k n H Q ↔ W (pj lw) 8 56 (.val (.ref x) :: L) (.ref x :: S) k n H Q := W_s (rfl : (pj lw).1 8 55 = some (.aload_n 0, 1, 0)) rfl rfl rfl
theorem w8_56 {a : Nat} : W (pj lw) 8 56 L (.ref a :: S) k n H Q ↔ (isO H a = true ∧ W (pj lw) 8 59 L (fld H a 9 :: S) k n H Q) := W_getf (rfl : (pj lw).1 8 56 = some (.getfield 19, 3, 9))
theorem w8_59 {x : Int32} {l0 : Slot} : W (pj lw) 8 59 (l0 :: .val (.int x) :: L) S k n H Q ↔ W (pj lw) 8 60 (l0 :: .val (.int x) :: L) (.int x :: S) k n H Q := W_s (rfl : (pj lw).1 8 59 = some (.iload_n 1, 1, 0)) rfl rfl rfl
theorem w8_60 {i : Int32} {a : Nat} : W (pj lw) 8 60 L (.int i :: .ref a :: S) k n H Q ↔ (inA H a .int i = true ∧ W (pj lw) 8 61 L (elt H a i :: S) k n H Q) := W_iaload (rfl : (pj lw).1 8 60 = some (.iaload, 1, 0))
theorem w8_61 {x : Int32} : W (pj lw) 8 61 L (.int x :: S) k n H Q ↔ Q (some (.int x)) H := W_r (rfl : (pj lw).1 8 61 = some (.ireturn, 1, 0)) rfl
theorem w8_62 {x : Int32} {l0 l1 : Slot} : W (pj lw) 8 62 (l0 :: l1 :: .val (.int x) :: L) S k n H Q ↔ W (pj lw) 8 63 (l0 :: l1 :: .val (.int x) :: L) (.int x :: S) k n H Q := W_s (rfl : (pj lw).1 8 62 = some (.iload_n 2, 1, 0)) rfl rfl rfl
theorem w8_63 : W (pj lw) 8 63 L S k n H Q ↔ W (pj lw) 8 64 L (.int 4 :: S) k n H Q := W_s (rfl : (pj lw).1 8 63 = some (.iconst 4, 1, 0)) rfl rfl rfl
theorem w8_64 {x y : Int32} : W (pj lw) 8 64 L (.int y :: .int x :: S) k n H Q ↔ (if x = y then W (pj lw) 8 67 L S k n H Q else W (pj lw) 8 74 L S k n H Q) := W_icmp_ne (rfl : (pj lw).1 8 64 = some (.if_icmp .ne 10, 3, 0)) rfl
theorem w8_67 {x : Nat} : W (pj lw) 8 67 (.val (.ref x) :: L) S k n H Q ↔ W (pj lw) 8 68 (.val (.ref x) :: L) (.ref x :: S) k n H Q := W_s (rfl : (pj lw).1 8 67 = some (.aload_n 0, 1, 0)) rfl rfl rfl
theorem w8_68 {a : Nat} : W (pj lw) 8 68 L (.ref a :: S) k n H Q ↔ (isO H a = true ∧ W (pj lw) 8 71 L (fld H a 10 :: S) k n H Q) := W_getf (rfl : (pj lw).1 8 68 = some (.getfield 22, 3, 10))
theorem w8_71 {x : Int32} {l0 : Slot} : W (pj lw) 8 71 (l0 :: .val (.int x) :: L) S k n H Q ↔ W (pj lw) 8 72 (l0 :: .val (.int x) :: L) (.int x :: S) k n H Q := W_s (rfl : (pj lw).1 8 71 = some (.iload_n 1, 1, 0)) rfl rfl rfl
theorem w8_72 {i : Int32} {a : Nat} : W (pj lw) 8 72 L (.int i :: .ref a :: S) k n H Q ↔ (inA H a .int i = true ∧ W (pj lw) 8 73 L (elt H a i :: S) k n H Q) := W_iaload (rfl : (pj lw).1 8 72 = some (.iaload, 1, 0))
theorem w8_73 {x : Int32} : W (pj lw) 8 73 L (.int x :: S) k n H Q ↔ Q (some (.int x)) H := W_r (rfl : (pj lw).1 8 73 = some (.ireturn, 1, 0)) rfl
theorem w8_74 : W (pj lw) 8 74 L S k n H Q ↔ W (pj lw) 8 76 L (.int (-99) :: S) k n H Q := W_s (rfl : (pj lw).1 8 74 = some (.bipush (-99), 2, 0)) rfl rfl rfl
theorem w8_76 {x : Int32} : W (pj lw) 8 76 L (.int x :: S) k n H Q ↔ Q (some (.int x)) H := W_r (rfl : (pj lw).1 8 76 = some (.ireturn, 1, 0)) rfl
theorem c9 {x0 : Nat} {x1 : Int32} {x2 : Int32} : Cl (pj lw) 9 [.ref x0, .int x1, .int x2] H Q ↔ W (pj lw) 9 0 [.val (.ref x0), .val (.int x1), .val (.int x2)] [] 0 0 H Q := cl_unf rfl
theorem w9_0 {x : Int32} {l0 : Slot} : W (pj lw) 9 0 (l0 :: .val (.int x) :: L) S k n H Q ↔ W (pj lw) 9 1 (l0 :: .val (.int x) :: L) (.int x :: S) k n H Q := W_s (rfl : (pj lw).1 9 0 = some (.iload_n 1, 1, 0)) rfl rfl rfl
theorem w9_1 {x : Int32} : W (pj lw) 9 1 L (.int x :: S) k n H Q ↔ (if x < 0 then W (pj lw) 9 12 L S k n H Q else W (pj lw) 9 4 L S k n H Q) := W_if_lt (rfl : (pj lw).1 9 1 = some (.ifCond .lt 11, 3, 0)) rfl
theorem w9_4 {x : Int32} {l0 : Slot} : W (pj lw) 9 4 (l0 :: .val (.int x) :: L) S k n H Q ↔ W (pj lw) 9 5 (l0 :: .val (.int x) :: L) (.int x :: S) k n H Q := W_s (rfl : (pj lw).1 9 4 = some (.iload_n 1, 1, 0)) rfl rfl rfl
theorem w9_5 {x : Nat} : W (pj lw) 9 5 (.val (.ref x) :: L) S k n H Q ↔ W (pj lw) 9 6 (.val (.ref x) :: L) (.ref x :: S) k n H Q := W_s (rfl : (pj lw).1 9 5 = some (.aload_n 0, 1, 0)) rfl rfl rfl
theorem w9_6 {a : Nat} : W (pj lw) 9 6 L (.ref a :: S) k n H Q ↔ (isO H a = true ∧ W (pj lw) 9 9 L (fld H a 4 :: S) k n H Q) := W_getf (rfl : (pj lw).1 9 6 = some (.getfield 63, 3, 4))
theorem w9_9 {x y : Int32} : W (pj lw) 9 9 L (.int y :: .int x :: S) k n H Q ↔ (if x < y then W (pj lw) 9 15 L S k n H Q else W (pj lw) 9 12 L S k n H Q) := W_icmp_lt (rfl : (pj lw).1 9 9 = some (.if_icmp .lt 6, 3, 0)) rfl
theorem w9_12 : W (pj lw) 9 12 L S k n H Q ↔ W (pj lw) 9 14 L (.int (-99) :: S) k n H Q := W_s (rfl : (pj lw).1 9 12 = some (.bipush (-99), 2, 0)) rfl rfl rfl
theorem w9_14 {x : Int32} : W (pj lw) 9 14 L (.int x :: S) k n H Q ↔ Q (some (.int x)) H := W_r (rfl : (pj lw).1 9 14 = some (.ireturn, 1, 0)) rfl
theorem w9_15 {x : Int32} {l0 l1 : Slot} : W (pj lw) 9 15 (l0 :: l1 :: .val (.int x) :: L) S k n H Q ↔ W (pj lw) 9 16 (l0 :: l1 :: .val (.int x) :: L) (.int x :: S) k n H Q := W_s (rfl : (pj lw).1 9 15 = some (.iload_n 2, 1, 0)) rfl rfl rfl
theorem w9_16 {x : Int32} : W (pj lw) 9 16 L (.int x :: S) k n H Q ↔ (if x = 0 then W (pj lw) 9 19 L S k n H Q else W (pj lw) 9 26 L S k n H Q) := W_if_ne (rfl : (pj lw).1 9 16 = some (.ifCond .ne 10, 3, 0)) rfl
theorem w9_19 {x : Nat} : W (pj lw) 9 19 (.val (.ref x) :: L) S k n H Q ↔ W (pj lw) 9 20 (.val (.ref x) :: L) (.ref x :: S) k n H Q := W_s (rfl : (pj lw).1 9 19 = some (.aload_n 0, 1, 0)) rfl rfl rfl
theorem w9_20 {a : Nat} : W (pj lw) 9 20 L (.ref a :: S) k n H Q ↔ (isO H a = true ∧ W (pj lw) 9 23 L (fld H a 11 :: S) k n H Q) := W_getf (rfl : (pj lw).1 9 20 = some (.getfield 25, 3, 11))
theorem w9_23 {x : Int32} {l0 : Slot} : W (pj lw) 9 23 (l0 :: .val (.int x) :: L) S k n H Q ↔ W (pj lw) 9 24 (l0 :: .val (.int x) :: L) (.int x :: S) k n H Q := W_s (rfl : (pj lw).1 9 23 = some (.iload_n 1, 1, 0)) rfl rfl rfl
theorem w9_24 {i : Int32} {a : Nat} : W (pj lw) 9 24 L (.int i :: .ref a :: S) k n H Q ↔ (inA H a .int i = true ∧ W (pj lw) 9 25 L (elt H a i :: S) k n H Q) := W_iaload (rfl : (pj lw).1 9 24 = some (.iaload, 1, 0))
theorem w9_25 {x : Int32} : W (pj lw) 9 25 L (.int x :: S) k n H Q ↔ Q (some (.int x)) H := W_r (rfl : (pj lw).1 9 25 = some (.ireturn, 1, 0)) rfl
theorem w9_26 {x : Int32} {l0 l1 : Slot} : W (pj lw) 9 26 (l0 :: l1 :: .val (.int x) :: L) S k n H Q ↔ W (pj lw) 9 27 (l0 :: l1 :: .val (.int x) :: L) (.int x :: S) k n H Q := W_s (rfl : (pj lw).1 9 26 = some (.iload_n 2, 1, 0)) rfl rfl rfl
theorem w9_27 : W (pj lw) 9 27 L S k n H Q ↔ W (pj lw) 9 28 L (.int 1 :: S) k n H Q := W_s (rfl : (pj lw).1 9 27 = some (.iconst 1, 1, 0)) rfl rfl rfl
theorem w9_28 {x y : Int32} : W (pj lw) 9 28 L (.int y :: .int x :: S) k n H Q ↔ (if x = y then W (pj lw) 9 31 L S k n H Q else W (pj lw) 9 38 L S k n H Q) := W_icmp_ne (rfl : (pj lw).1 9 28 = some (.if_icmp .ne 10, 3, 0)) rfl
theorem w9_31 {x : Nat} : W (pj lw) 9 31 (.val (.ref x) :: L) S k n H Q ↔ W (pj lw) 9 32 (.val (.ref x) :: L) (.ref x :: S) k n H Q := W_s (rfl : (pj lw).1 9 31 = some (.aload_n 0, 1, 0)) rfl rfl rfl
theorem w9_32 {a : Nat} : W (pj lw) 9 32 L (.ref a :: S) k n H Q ↔ (isO H a = true ∧ W (pj lw) 9 35 L (fld H a 12 :: S) k n H Q) := W_getf (rfl : (pj lw).1 9 32 = some (.getfield 28, 3, 12))
theorem w9_35 {x : Int32} {l0 : Slot} : W (pj lw) 9 35 (l0 :: .val (.int x) :: L) S k n H Q ↔ W (pj lw) 9 36 (l0 :: .val (.int x) :: L) (.int x :: S) k n H Q := W_s (rfl : (pj lw).1 9 35 = some (.iload_n 1, 1, 0)) rfl rfl rfl
theorem w9_36 {i : Int32} {a : Nat} : W (pj lw) 9 36 L (.int i :: .ref a :: S) k n H Q ↔ (inA H a .int i = true ∧ W (pj lw) 9 37 L (elt H a i :: S) k n H Q) := W_iaload (rfl : (pj lw).1 9 36 = some (.iaload, 1, 0))
theorem w9_37 {x : Int32} : W (pj lw) 9 37 L (.int x :: S) k n H Q ↔ Q (some (.int x)) H := W_r (rfl : (pj lw).1 9 37 = some (.ireturn, 1, 0)) rfl
theorem w9_38 {x : Int32} {l0 l1 : Slot} : W (pj lw) 9 38 (l0 :: l1 :: .val (.int x) :: L) S k n H Q ↔ W (pj lw) 9 39 (l0 :: l1 :: .val (.int x) :: L) (.int x :: S) k n H Q := W_s (rfl : (pj lw).1 9 38 = some (.iload_n 2, 1, 0)) rfl rfl rfl
theorem w9_39 : W (pj lw) 9 39 L S k n H Q ↔ W (pj lw) 9 40 L (.int 2 :: S) k n H Q := W_s (rfl : (pj lw).1 9 39 = some (.iconst 2, 1, 0)) rfl rfl rfl
theorem w9_40 {x y : Int32} : W (pj lw) 9 40 L (.int y :: .int x :: S) k n H Q ↔ (if x = y then W (pj lw) 9 43 L S k n H Q else W (pj lw) 9 50 L S k n H Q) := W_icmp_ne (rfl : (pj lw).1 9 40 = some (.if_icmp .ne 10, 3, 0)) rfl
theorem w9_43 {x : Nat} : W (pj lw) 9 43 (.val (.ref x) :: L) S k n H Q ↔ W (pj lw) 9 44 (.val (.ref x) :: L) (.ref x :: S) k n H Q := W_s (rfl : (pj lw).1 9 43 = some (.aload_n 0, 1, 0)) rfl rfl rfl
theorem w9_44 {a : Nat} : W (pj lw) 9 44 L (.ref a :: S) k n H Q ↔ (isO H a = true ∧ W (pj lw) 9 47 L (fld H a 13 :: S) k n H Q) := W_getf (rfl : (pj lw).1 9 44 = some (.getfield 31, 3, 13))
theorem w9_47 {x : Int32} {l0 : Slot} : W (pj lw) 9 47 (l0 :: .val (.int x) :: L) S k n H Q ↔ W (pj lw) 9 48 (l0 :: .val (.int x) :: L) (.int x :: S) k n H Q := W_s (rfl : (pj lw).1 9 47 = some (.iload_n 1, 1, 0)) rfl rfl rfl
theorem w9_48 {i : Int32} {a : Nat} : W (pj lw) 9 48 L (.int i :: .ref a :: S) k n H Q ↔ (inA H a .int i = true ∧ W (pj lw) 9 49 L (elt H a i :: S) k n H Q) := W_iaload (rfl : (pj lw).1 9 48 = some (.iaload, 1, 0))
theorem w9_49 {x : Int32} : W (pj lw) 9 49 L (.int x :: S) k n H Q ↔ Q (some (.int x)) H := W_r (rfl : (pj lw).1 9 49 = some (.ireturn, 1, 0)) rfl
theorem w9_50 {x : Int32} {l0 l1 : Slot} : W (pj lw) 9 50 (l0 :: l1 :: .val (.int x) :: L) S k n H Q ↔ W (pj lw) 9 51 (l0 :: l1 :: .val (.int x) :: L) (.int x :: S) k n H Q := W_s (rfl : (pj lw).1 9 50 = some (.iload_n 2, 1, 0)) rfl rfl rfl
theorem w9_51 : W (pj lw) 9 51 L S k n H Q ↔ W (pj lw) 9 52 L (.int 3 :: S) k n H Q := W_s (rfl : (pj lw).1 9 51 = some (.iconst 3, 1, 0)) rfl rfl rfl
theorem w9_52 {x y : Int32} : W (pj lw) 9 52 L (.int y :: .int x :: S) k n H Q ↔ (if x = y then W (pj lw) 9 55 L S k n H Q else W (pj lw) 9 62 L S k n H Q) := W_icmp_ne (rfl : (pj lw).1 9 52 = some (.if_icmp .ne 10, 3, 0)) rfl
theorem w9_55 {x : Nat} : W (pj lw) 9 55 (.val (.ref x) :: L) S k n H Q ↔ W (pj lw) 9 56 (.val (.ref x) :: L) (.ref x :: S) k n H Q := W_s (rfl : (pj lw).1 9 55 = some (.aload_n 0, 1, 0)) rfl rfl rfl
theorem w9_56 {a : Nat} : W (pj lw) 9 56 L (.ref a :: S) k n H Q ↔ (isO H a = true ∧ W (pj lw) 9 59 L (fld H a 14 :: S) k n H Q) := W_getf (rfl : (pj lw).1 9 56 = some (.getfield 34, 3, 14))
theorem w9_59 {x : Int32} {l0 : Slot} : W (pj lw) 9 59 (l0 :: .val (.int x) :: L) S k n H Q ↔ W (pj lw) 9 60 (l0 :: .val (.int x) :: L) (.int x :: S) k n H Q := W_s (rfl : (pj lw).1 9 59 = some (.iload_n 1, 1, 0)) rfl rfl rfl
theorem w9_60 {i : Int32} {a : Nat} : W (pj lw) 9 60 L (.int i :: .ref a :: S) k n H Q ↔ (inA H a .int i = true ∧ W (pj lw) 9 61 L (elt H a i :: S) k n H Q) := W_iaload (rfl : (pj lw).1 9 60 = some (.iaload, 1, 0))
theorem w9_61 {x : Int32} : W (pj lw) 9 61 L (.int x :: S) k n H Q ↔ Q (some (.int x)) H := W_r (rfl : (pj lw).1 9 61 = some (.ireturn, 1, 0)) rfl
theorem w9_62 {x : Int32} {l0 l1 : Slot} : W (pj lw) 9 62 (l0 :: l1 :: .val (.int x) :: L) S k n H Q ↔ W (pj lw) 9 63 (l0 :: l1 :: .val (.int x) :: L) (.int x :: S) k n H Q := W_s (rfl : (pj lw).1 9 62 = some (.iload_n 2, 1, 0)) rfl rfl rfl
theorem w9_63 : W (pj lw) 9 63 L S k n H Q ↔ W (pj lw) 9 64 L (.int 4 :: S) k n H Q := W_s (rfl : (pj lw).1 9 63 = some (.iconst 4, 1, 0)) rfl rfl rfl
theorem w9_64 {x y : Int32} : W (pj lw) 9 64 L (.int y :: .int x :: S) k n H Q ↔ (if x = y then W (pj lw) 9 67 L S k n H Q else W (pj lw) 9 74 L S k n H Q) := W_icmp_ne (rfl : (pj lw).1 9 64 = some (.if_icmp .ne 10, 3, 0)) rfl
theorem w9_67 {x : Nat} : W (pj lw) 9 67 (.val (.ref x) :: L) S k n H Q ↔ W (pj lw) 9 68 (.val (.ref x) :: L) (.ref x :: S) k n H Q := W_s (rfl : (pj lw).1 9 67 = some (.aload_n 0, 1, 0)) rfl rfl rfl
theorem w9_68 {a : Nat} : W (pj lw) 9 68 L (.ref a :: S) k n H Q ↔ (isO H a = true ∧ W (pj lw) 9 71 L (fld H a 15 :: S) k n H Q) := W_getf (rfl : (pj lw).1 9 68 = some (.getfield 37, 3, 15))
theorem w9_71 {x : Int32} {l0 : Slot} : W (pj lw) 9 71 (l0 :: .val (.int x) :: L) S k n H Q ↔ W (pj lw) 9 72 (l0 :: .val (.int x) :: L) (.int x :: S) k n H Q := W_s (rfl : (pj lw).1 9 71 = some (.iload_n 1, 1, 0)) rfl rfl rfl
theorem w9_72 {i : Int32} {a : Nat} : W (pj lw) 9 72 L (.int i :: .ref a :: S) k n H Q ↔ (inA H a .int i = true ∧ W (pj lw) 9 73 L (elt H a i :: S) k n H Q) := W_iaload (rfl : (pj lw).1 9 72 = some (.iaload, 1, 0))
theorem w9_73 {x : Int32} : W (pj lw) 9 73 L (.int x :: S) k n H Q ↔ Q (some (.int x)) H := W_r (rfl : (pj lw).1 9 73 = some (.ireturn, 1, 0)) rfl
theorem w9_74 {x : Int32} {l0 l1 : Slot} : W (pj lw) 9 74 (l0 :: l1 :: .val (.int x) :: L) S k n H Q ↔ W (pj lw) 9 75 (l0 :: l1 :: .val (.int x) :: L) (.int x :: S) k n H Q := W_s (rfl : (pj lw).1 9 74 = some (.iload_n 2, 1, 0)) rfl rfl rfl
theorem w9_75 : W (pj lw) 9 75 L S k n H Q ↔ W (pj lw) 9 76 L (.int 5 :: S) k n H Q := W_s (rfl : (pj lw).1 9 75 = some (.iconst 5, 1, 0)) rfl rfl rfl
theorem w9_76 {x y : Int32} : W (pj lw) 9 76 L (.int y :: .int x :: S) k n H Q ↔ (if x = y then W (pj lw) 9 79 L S k n H Q else W (pj lw) 9 86 L S k n H Q) := W_icmp_ne (rfl : (pj lw).1 9 76 = some (.if_icmp .ne 10, 3, 0)) rfl
theorem w9_79 {x : Nat} : W (pj lw) 9 79 (.val (.ref x) :: L) S k n H Q ↔ W (pj lw) 9 80 (.val (.ref x) :: L) (.ref x :: S) k n H Q := W_s (rfl : (pj lw).1 9 79 = some (.aload_n 0, 1, 0)) rfl rfl rfl
theorem w9_80 {a : Nat} : W (pj lw) 9 80 L (.ref a :: S) k n H Q ↔ (isO H a = true ∧ W (pj lw) 9 83 L (fld H a 16 :: S) k n H Q) := W_getf (rfl : (pj lw).1 9 80 = some (.getfield 40, 3, 16))
theorem w9_83 {x : Int32} {l0 : Slot} : W (pj lw) 9 83 (l0 :: .val (.int x) :: L) S k n H Q ↔ W (pj lw) 9 84 (l0 :: .val (.int x) :: L) (.int x :: S) k n H Q := W_s (rfl : (pj lw).1 9 83 = some (.iload_n 1, 1, 0)) rfl rfl rfl
theorem w9_84 {i : Int32} {a : Nat} : W (pj lw) 9 84 L (.int i :: .ref a :: S) k n H Q ↔ (inA H a .int i = true ∧ W (pj lw) 9 85 L (elt H a i :: S) k n H Q) := W_iaload (rfl : (pj lw).1 9 84 = some (.iaload, 1, 0))
theorem w9_85 {x : Int32} : W (pj lw) 9 85 L (.int x :: S) k n H Q ↔ Q (some (.int x)) H := W_r (rfl : (pj lw).1 9 85 = some (.ireturn, 1, 0)) rfl
theorem w9_86 {x : Int32} {l0 l1 : Slot} : W (pj lw) 9 86 (l0 :: l1 :: .val (.int x) :: L) S k n H Q ↔ W (pj lw) 9 87 (l0 :: l1 :: .val (.int x) :: L) (.int x :: S) k n H Q := W_s (rfl : (pj lw).1 9 86 = some (.iload_n 2, 1, 0)) rfl rfl rfl
theorem w9_87 : W (pj lw) 9 87 L S k n H Q ↔ W (pj lw) 9 89 L (.int 6 :: S) k n H Q := W_s (rfl : (pj lw).1 9 87 = some (.bipush 6, 2, 0)) rfl rfl rfl
theorem w9_89 {x y : Int32} : W (pj lw) 9 89 L (.int y :: .int x :: S) k n H Q ↔ (if x = y then W (pj lw) 9 92 L S k n H Q else W (pj lw) 9 99 L S k n H Q) := W_icmp_ne (rfl : (pj lw).1 9 89 = some (.if_icmp .ne 10, 3, 0)) rfl
theorem w9_92 {x : Nat} : W (pj lw) 9 92 (.val (.ref x) :: L) S k n H Q ↔ W (pj lw) 9 93 (.val (.ref x) :: L) (.ref x :: S) k n H Q := W_s (rfl : (pj lw).1 9 92 = some (.aload_n 0, 1, 0)) rfl rfl rfl
theorem w9_93 {a : Nat} : W (pj lw) 9 93 L (.ref a :: S) k n H Q ↔ (isO H a = true ∧ W (pj lw) 9 96 L (fld H a 17 :: S) k n H Q) := W_getf (rfl : (pj lw).1 9 93 = some (.getfield 43, 3, 17))
theorem w9_96 {x : Int32} {l0 : Slot} : W (pj lw) 9 96 (l0 :: .val (.int x) :: L) S k n H Q ↔ W (pj lw) 9 97 (l0 :: .val (.int x) :: L) (.int x :: S) k n H Q := W_s (rfl : (pj lw).1 9 96 = some (.iload_n 1, 1, 0)) rfl rfl rfl
theorem w9_97 {i : Int32} {a : Nat} : W (pj lw) 9 97 L (.int i :: .ref a :: S) k n H Q ↔ (inA H a .int i = true ∧ W (pj lw) 9 98 L (elt H a i :: S) k n H Q) := W_iaload (rfl : (pj lw).1 9 97 = some (.iaload, 1, 0))
theorem w9_98 {x : Int32} : W (pj lw) 9 98 L (.int x :: S) k n H Q ↔ Q (some (.int x)) H := W_r (rfl : (pj lw).1 9 98 = some (.ireturn, 1, 0)) rfl
theorem w9_99 : W (pj lw) 9 99 L S k n H Q ↔ W (pj lw) 9 101 L (.int (-99) :: S) k n H Q := W_s (rfl : (pj lw).1 9 99 = some (.bipush (-99), 2, 0)) rfl rfl rfl
theorem w9_101 {x : Int32} : W (pj lw) 9 101 L (.int x :: S) k n H Q ↔ Q (some (.int x)) H := W_r (rfl : (pj lw).1 9 101 = some (.ireturn, 1, 0)) rfl
theorem c12 {x0 : Nat} : Cl (pj lw) 12 [.ref x0] H Q ↔ W (pj lw) 12 0 [.val (.ref x0), .unset, .unset] [] 0 0 H Q := cl_unf rfl
theorem w12_0 : W (pj lw) 12 0 L S k n H Q ↔ W (pj lw) 12 1 L (.int 0 :: S) k n H Q := W_s (rfl : (pj lw).1 12 0 = some (.iconst 0, 1, 0)) rfl rfl rfl
theorem w12_1 {x : Int32} {l0 : Slot} : W (pj lw) 12 1 (l0 :: .unset :: L) (.int x :: S) k n H Q ↔ W (pj lw) 12 2 (l0 :: .val (.int x) :: L) S k n H Q := W_istn (rfl : (pj lw).1 12 1 = some (.istore_n 1, 1, 0)) rfl rfl
theorem w12_2 : W (pj lw) 12 2 L S k n H Q ↔ W (pj lw) 12 3 L (.int 0 :: S) k n H Q := W_s (rfl : (pj lw).1 12 2 = some (.iconst 0, 1, 0)) rfl rfl rfl
theorem w12_3 {x : Int32} {l0 l1 : Slot} : W (pj lw) 12 3 (l0 :: l1 :: .unset :: L) (.int x :: S) k n H Q ↔ W (pj lw) 12 4 (l0 :: l1 :: .val (.int x) :: L) S k n H Q := W_istn (rfl : (pj lw).1 12 3 = some (.istore_n 2, 1, 0)) rfl rfl
theorem w12_4 {x : Int32} {l0 l1 : Slot} : W (pj lw) 12 4 (l0 :: l1 :: .val (.int x) :: L) S k n H Q ↔ W (pj lw) 12 5 (l0 :: l1 :: .val (.int x) :: L) (.int x :: S) k n H Q := W_s (rfl : (pj lw).1 12 4 = some (.iload_n 2, 1, 0)) rfl rfl rfl
theorem w12_5 {x : Nat} : W (pj lw) 12 5 (.val (.ref x) :: L) S k n H Q ↔ W (pj lw) 12 6 (.val (.ref x) :: L) (.ref x :: S) k n H Q := W_s (rfl : (pj lw).1 12 5 = some (.aload_n 0, 1, 0)) rfl rfl rfl
theorem w12_6 {a : Nat} : W (pj lw) 12 6 L (.ref a :: S) k n H Q ↔ (isO H a = true ∧ W (pj lw) 12 9 L (fld H a 4 :: S) k n H Q) := W_getf (rfl : (pj lw).1 12 6 = some (.getfield 63, 3, 4))
theorem w12_9 {x y : Int32} : W (pj lw) 12 9 L (.int y :: .int x :: S) k n H Q ↔ (if x < y then W (pj lw) 12 12 L S k n H Q else W (pj lw) 12 44 L S k n H Q) := W_icmp_ge (rfl : (pj lw).1 12 9 = some (.if_icmp .ge 35, 3, 0)) rfl
theorem w12_12 {x : Nat} : W (pj lw) 12 12 (.val (.ref x) :: L) S k n H Q ↔ W (pj lw) 12 13 (.val (.ref x) :: L) (.ref x :: S) k n H Q := W_s (rfl : (pj lw).1 12 12 = some (.aload_n 0, 1, 0)) rfl rfl rfl
theorem w12_13 {a : Nat} : W (pj lw) 12 13 L (.ref a :: S) k n H Q ↔ (isO H a = true ∧ W (pj lw) 12 16 L (fld H a 15 :: S) k n H Q) := W_getf (rfl : (pj lw).1 12 13 = some (.getfield 37, 3, 15))
theorem w12_16 {x : Int32} {l0 l1 : Slot} : W (pj lw) 12 16 (l0 :: l1 :: .val (.int x) :: L) S k n H Q ↔ W (pj lw) 12 17 (l0 :: l1 :: .val (.int x) :: L) (.int x :: S) k n H Q := W_s (rfl : (pj lw).1 12 16 = some (.iload_n 2, 1, 0)) rfl rfl rfl
theorem w12_17 {i : Int32} {a : Nat} : W (pj lw) 12 17 L (.int i :: .ref a :: S) k n H Q ↔ (inA H a .int i = true ∧ W (pj lw) 12 18 L (elt H a i :: S) k n H Q) := W_iaload (rfl : (pj lw).1 12 17 = some (.iaload, 1, 0))
theorem w12_18 : W (pj lw) 12 18 L S k n H Q ↔ W (pj lw) 12 19 L (.int (-1) :: S) k n H Q := W_s (rfl : (pj lw).1 12 18 = some (.iconst (-1), 1, 0)) rfl rfl rfl
theorem w12_19 {x y : Int32} : W (pj lw) 12 19 L (.int y :: .int x :: S) k n H Q ↔ (if x = y then W (pj lw) 12 38 L S k n H Q else W (pj lw) 12 22 L S k n H Q) := W_icmp_eq (rfl : (pj lw).1 12 19 = some (.if_icmp .eq 19, 3, 0)) rfl
theorem w12_22 {x : Int32} {l0 : Slot} : W (pj lw) 12 22 (l0 :: .val (.int x) :: L) S k n H Q ↔ W (pj lw) 12 23 (l0 :: .val (.int x) :: L) (.int x :: S) k n H Q := W_s (rfl : (pj lw).1 12 22 = some (.iload_n 1, 1, 0)) rfl rfl rfl
theorem w12_23 {x : Nat} : W (pj lw) 12 23 (.val (.ref x) :: L) S k n H Q ↔ W (pj lw) 12 24 (.val (.ref x) :: L) (.ref x :: S) k n H Q := W_s (rfl : (pj lw).1 12 23 = some (.aload_n 0, 1, 0)) rfl rfl rfl
theorem w12_24 {a : Nat} : W (pj lw) 12 24 L (.ref a :: S) k n H Q ↔ (isO H a = true ∧ W (pj lw) 12 27 L (fld H a 15 :: S) k n H Q) := W_getf (rfl : (pj lw).1 12 24 = some (.getfield 37, 3, 15))
theorem w12_27 {x : Int32} {l0 l1 : Slot} : W (pj lw) 12 27 (l0 :: l1 :: .val (.int x) :: L) S k n H Q ↔ W (pj lw) 12 28 (l0 :: l1 :: .val (.int x) :: L) (.int x :: S) k n H Q := W_s (rfl : (pj lw).1 12 27 = some (.iload_n 2, 1, 0)) rfl rfl rfl
theorem w12_28 {i : Int32} {a : Nat} : W (pj lw) 12 28 L (.int i :: .ref a :: S) k n H Q ↔ (inA H a .int i = true ∧ W (pj lw) 12 29 L (elt H a i :: S) k n H Q) := W_iaload (rfl : (pj lw).1 12 28 = some (.iaload, 1, 0))
theorem w12_29 {x : Nat} : W (pj lw) 12 29 (.val (.ref x) :: L) S k n H Q ↔ W (pj lw) 12 30 (.val (.ref x) :: L) (.ref x :: S) k n H Q := W_s (rfl : (pj lw).1 12 29 = some (.aload_n 0, 1, 0)) rfl rfl rfl
theorem w12_30 {a : Nat} : W (pj lw) 12 30 L (.ref a :: S) k n H Q ↔ (isO H a = true ∧ W (pj lw) 12 33 L (fld H a 14 :: S) k n H Q) := W_getf (rfl : (pj lw).1 12 30 = some (.getfield 34, 3, 14))
theorem w12_33 {x : Int32} {l0 l1 : Slot} : W (pj lw) 12 33 (l0 :: l1 :: .val (.int x) :: L) S k n H Q ↔ W (pj lw) 12 34 (l0 :: l1 :: .val (.int x) :: L) (.int x :: S) k n H Q := W_s (rfl : (pj lw).1 12 33 = some (.iload_n 2, 1, 0)) rfl rfl rfl
theorem w12_34 {i : Int32} {a : Nat} : W (pj lw) 12 34 L (.int i :: .ref a :: S) k n H Q ↔ (inA H a .int i = true ∧ W (pj lw) 12 35 L (elt H a i :: S) k n H Q) := W_iaload (rfl : (pj lw).1 12 34 = some (.iaload, 1, 0))
theorem w12_35 {x y : Int32} : W (pj lw) 12 35 L (.int y :: .int x :: S) k n H Q ↔ W (pj lw) 12 36 L (.int (x - y) :: S) k n H Q := W_s (rfl : (pj lw).1 12 35 = some (.isub, 1, 0)) rfl rfl rfl
theorem w12_36 {x y : Int32} : W (pj lw) 12 36 L (.int y :: .int x :: S) k n H Q ↔ W (pj lw) 12 37 L (.int (x + y) :: S) k n H Q := W_s (rfl : (pj lw).1 12 36 = some (.iadd, 1, 0)) rfl rfl rfl
theorem w12_37i {y : Int32} {x : Int32} {l0 : Slot} : W (pj lw) 12 37 (l0 :: .val (.int y) :: L) (.int x :: S) k n H Q ↔ W (pj lw) 12 38 (l0 :: .val (.int x) :: L) S k n H Q := W_istn (rfl : (pj lw).1 12 37 = some (.istore_n 1, 1, 0)) rfl rfl
theorem w12_38 {x : Int32} {l0 l1 : Slot} : W (pj lw) 12 38 (l0 :: l1 :: .val (.int x) :: L) S k n H Q ↔ W (pj lw) 12 41 (l0 :: l1 :: .val (.int (x + 1)) :: L) S k n H Q := W_s (rfl : (pj lw).1 12 38 = some (.iinc 2 1, 3, 0)) rfl rfl rfl
theorem w12_41 : W (pj lw) 12 41 L S k n H Q ↔ W (pj lw) 12 4 L S k n H Q := W_goto (rfl : (pj lw).1 12 41 = some (.goto (-37), 3, 0)) rfl
theorem w12_44 {x : Int32} {l0 : Slot} : W (pj lw) 12 44 (l0 :: .val (.int x) :: L) S k n H Q ↔ W (pj lw) 12 45 (l0 :: .val (.int x) :: L) (.int x :: S) k n H Q := W_s (rfl : (pj lw).1 12 44 = some (.iload_n 1, 1, 0)) rfl rfl rfl
theorem w12_45 {x : Int32} : W (pj lw) 12 45 L (.int x :: S) k n H Q ↔ Q (some (.int x)) H := W_r (rfl : (pj lw).1 12 45 = some (.ireturn, 1, 0)) rfl
theorem c13 {x0 : Nat} : Cl (pj lw) 13 [.ref x0] H Q ↔ W (pj lw) 13 0 [.val (.ref x0), .unset, .unset] [] 0 0 H Q := cl_unf rfl
theorem w13_0 : W (pj lw) 13 0 L S k n H Q ↔ W (pj lw) 13 1 L (.int 0 :: S) k n H Q := W_s (rfl : (pj lw).1 13 0 = some (.iconst 0, 1, 0)) rfl rfl rfl
theorem w13_1 {x : Int32} {l0 : Slot} : W (pj lw) 13 1 (l0 :: .unset :: L) (.int x :: S) k n H Q ↔ W (pj lw) 13 2 (l0 :: .val (.int x) :: L) S k n H Q := W_istn (rfl : (pj lw).1 13 1 = some (.istore_n 1, 1, 0)) rfl rfl
theorem w13_2 : W (pj lw) 13 2 L S k n H Q ↔ W (pj lw) 13 3 L (.int 0 :: S) k n H Q := W_s (rfl : (pj lw).1 13 2 = some (.iconst 0, 1, 0)) rfl rfl rfl
theorem w13_3 {x : Int32} {l0 l1 : Slot} : W (pj lw) 13 3 (l0 :: l1 :: .unset :: L) (.int x :: S) k n H Q ↔ W (pj lw) 13 4 (l0 :: l1 :: .val (.int x) :: L) S k n H Q := W_istn (rfl : (pj lw).1 13 3 = some (.istore_n 2, 1, 0)) rfl rfl
theorem w13_4 {x : Int32} {l0 l1 : Slot} : W (pj lw) 13 4 (l0 :: l1 :: .val (.int x) :: L) S k n H Q ↔ W (pj lw) 13 5 (l0 :: l1 :: .val (.int x) :: L) (.int x :: S) k n H Q := W_s (rfl : (pj lw).1 13 4 = some (.iload_n 2, 1, 0)) rfl rfl rfl
theorem w13_5 {x : Nat} : W (pj lw) 13 5 (.val (.ref x) :: L) S k n H Q ↔ W (pj lw) 13 6 (.val (.ref x) :: L) (.ref x :: S) k n H Q := W_s (rfl : (pj lw).1 13 5 = some (.aload_n 0, 1, 0)) rfl rfl rfl
theorem w13_6 {a : Nat} : W (pj lw) 13 6 L (.ref a :: S) k n H Q ↔ (isO H a = true ∧ W (pj lw) 13 9 L (fld H a 4 :: S) k n H Q) := W_getf (rfl : (pj lw).1 13 6 = some (.getfield 63, 3, 4))
theorem w13_9 {x y : Int32} : W (pj lw) 13 9 L (.int y :: .int x :: S) k n H Q ↔ (if x < y then W (pj lw) 13 12 L S k n H Q else W (pj lw) 13 44 L S k n H Q) := W_icmp_ge (rfl : (pj lw).1 13 9 = some (.if_icmp .ge 35, 3, 0)) rfl
theorem w13_12 {x : Nat} : W (pj lw) 13 12 (.val (.ref x) :: L) S k n H Q ↔ W (pj lw) 13 13 (.val (.ref x) :: L) (.ref x :: S) k n H Q := W_s (rfl : (pj lw).1 13 12 = some (.aload_n 0, 1, 0)) rfl rfl rfl
theorem w13_13 {a : Nat} : W (pj lw) 13 13 L (.ref a :: S) k n H Q ↔ (isO H a = true ∧ W (pj lw) 13 16 L (fld H a 11 :: S) k n H Q) := W_getf (rfl : (pj lw).1 13 13 = some (.getfield 25, 3, 11))
theorem w13_16 {x : Int32} {l0 l1 : Slot} : W (pj lw) 13 16 (l0 :: l1 :: .val (.int x) :: L) S k n H Q ↔ W (pj lw) 13 17 (l0 :: l1 :: .val (.int x) :: L) (.int x :: S) k n H Q := W_s (rfl : (pj lw).1 13 16 = some (.iload_n 2, 1, 0)) rfl rfl rfl
theorem w13_17 {i : Int32} {a : Nat} : W (pj lw) 13 17 L (.int i :: .ref a :: S) k n H Q ↔ (inA H a .int i = true ∧ W (pj lw) 13 18 L (elt H a i :: S) k n H Q) := W_iaload (rfl : (pj lw).1 13 17 = some (.iaload, 1, 0))
theorem w13_18 : W (pj lw) 13 18 L S k n H Q ↔ W (pj lw) 13 19 L (.int 3 :: S) k n H Q := W_s (rfl : (pj lw).1 13 18 = some (.iconst 3, 1, 0)) rfl rfl rfl
theorem w13_19 {x y : Int32} : W (pj lw) 13 19 L (.int y :: .int x :: S) k n H Q ↔ (if x = y then W (pj lw) 13 22 L S k n H Q else W (pj lw) 13 38 L S k n H Q) := W_icmp_ne (rfl : (pj lw).1 13 19 = some (.if_icmp .ne 19, 3, 0)) rfl
theorem w13_22 {x : Int32} {l0 : Slot} : W (pj lw) 13 22 (l0 :: .val (.int x) :: L) S k n H Q ↔ W (pj lw) 13 23 (l0 :: .val (.int x) :: L) (.int x :: S) k n H Q := W_s (rfl : (pj lw).1 13 22 = some (.iload_n 1, 1, 0)) rfl rfl rfl
theorem w13_23 {x : Nat} : W (pj lw) 13 23 (.val (.ref x) :: L) S k n H Q ↔ W (pj lw) 13 24 (.val (.ref x) :: L) (.ref x :: S) k n H Q := W_s (rfl : (pj lw).1 13 23 = some (.aload_n 0, 1, 0)) rfl rfl rfl
theorem w13_24 {a : Nat} : W (pj lw) 13 24 L (.ref a :: S) k n H Q ↔ (isO H a = true ∧ W (pj lw) 13 27 L (fld H a 16 :: S) k n H Q) := W_getf (rfl : (pj lw).1 13 24 = some (.getfield 40, 3, 16))
theorem w13_27 {x : Int32} {l0 l1 : Slot} : W (pj lw) 13 27 (l0 :: l1 :: .val (.int x) :: L) S k n H Q ↔ W (pj lw) 13 28 (l0 :: l1 :: .val (.int x) :: L) (.int x :: S) k n H Q := W_s (rfl : (pj lw).1 13 27 = some (.iload_n 2, 1, 0)) rfl rfl rfl
theorem w13_28 {i : Int32} {a : Nat} : W (pj lw) 13 28 L (.int i :: .ref a :: S) k n H Q ↔ (inA H a .int i = true ∧ W (pj lw) 13 29 L (elt H a i :: S) k n H Q) := W_iaload (rfl : (pj lw).1 13 28 = some (.iaload, 1, 0))
theorem w13_29 {x : Nat} : W (pj lw) 13 29 (.val (.ref x) :: L) S k n H Q ↔ W (pj lw) 13 30 (.val (.ref x) :: L) (.ref x :: S) k n H Q := W_s (rfl : (pj lw).1 13 29 = some (.aload_n 0, 1, 0)) rfl rfl rfl
theorem w13_30 {a : Nat} : W (pj lw) 13 30 L (.ref a :: S) k n H Q ↔ (isO H a = true ∧ W (pj lw) 13 33 L (fld H a 14 :: S) k n H Q) := W_getf (rfl : (pj lw).1 13 30 = some (.getfield 34, 3, 14))
theorem w13_33 {x : Int32} {l0 l1 : Slot} : W (pj lw) 13 33 (l0 :: l1 :: .val (.int x) :: L) S k n H Q ↔ W (pj lw) 13 34 (l0 :: l1 :: .val (.int x) :: L) (.int x :: S) k n H Q := W_s (rfl : (pj lw).1 13 33 = some (.iload_n 2, 1, 0)) rfl rfl rfl
theorem w13_34 {i : Int32} {a : Nat} : W (pj lw) 13 34 L (.int i :: .ref a :: S) k n H Q ↔ (inA H a .int i = true ∧ W (pj lw) 13 35 L (elt H a i :: S) k n H Q) := W_iaload (rfl : (pj lw).1 13 34 = some (.iaload, 1, 0))
theorem w13_35 {x y : Int32} : W (pj lw) 13 35 L (.int y :: .int x :: S) k n H Q ↔ W (pj lw) 13 36 L (.int (x - y) :: S) k n H Q := W_s (rfl : (pj lw).1 13 35 = some (.isub, 1, 0)) rfl rfl rfl
theorem w13_36 {x y : Int32} : W (pj lw) 13 36 L (.int y :: .int x :: S) k n H Q ↔ W (pj lw) 13 37 L (.int (x + y) :: S) k n H Q := W_s (rfl : (pj lw).1 13 36 = some (.iadd, 1, 0)) rfl rfl rfl
theorem w13_37i {y : Int32} {x : Int32} {l0 : Slot} : W (pj lw) 13 37 (l0 :: .val (.int y) :: L) (.int x :: S) k n H Q ↔ W (pj lw) 13 38 (l0 :: .val (.int x) :: L) S k n H Q := W_istn (rfl : (pj lw).1 13 37 = some (.istore_n 1, 1, 0)) rfl rfl
theorem w13_38 {x : Int32} {l0 l1 : Slot} : W (pj lw) 13 38 (l0 :: l1 :: .val (.int x) :: L) S k n H Q ↔ W (pj lw) 13 41 (l0 :: l1 :: .val (.int (x + 1)) :: L) S k n H Q := W_s (rfl : (pj lw).1 13 38 = some (.iinc 2 1, 3, 0)) rfl rfl rfl
theorem w13_41 : W (pj lw) 13 41 L S k n H Q ↔ W (pj lw) 13 4 L S k n H Q := W_goto (rfl : (pj lw).1 13 41 = some (.goto (-37), 3, 0)) rfl
theorem w13_44 {x : Int32} {l0 : Slot} : W (pj lw) 13 44 (l0 :: .val (.int x) :: L) S k n H Q ↔ W (pj lw) 13 45 (l0 :: .val (.int x) :: L) (.int x :: S) k n H Q := W_s (rfl : (pj lw).1 13 44 = some (.iload_n 1, 1, 0)) rfl rfl rfl
theorem w13_45 {x : Int32} : W (pj lw) 13 45 L (.int x :: S) k n H Q ↔ Q (some (.int x)) H := W_r (rfl : (pj lw).1 13 45 = some (.ireturn, 1, 0)) rfl
theorem c14 {x0 : Nat} {x1 : Int32} {x2 : Int32} : Cl (pj lw) 14 [.ref x0, .int x1, .int x2] H Q ↔ W (pj lw) 14 0 [.val (.ref x0), .val (.int x1), .val (.int x2), .unset, .unset, .unset, .unset] [] 0 0 H Q := cl_unf rfl
theorem w14_0 {x : Int32} {l0 : Slot} : W (pj lw) 14 0 (l0 :: .val (.int x) :: L) S k n H Q ↔ W (pj lw) 14 1 (l0 :: .val (.int x) :: L) (.int x :: S) k n H Q := W_s (rfl : (pj lw).1 14 0 = some (.iload_n 1, 1, 0)) rfl rfl rfl
theorem w14_1 {x : Int32} : W (pj lw) 14 1 L (.int x :: S) k n H Q ↔ (if x = 0 then W (pj lw) 14 9 L S k n H Q else W (pj lw) 14 4 L S k n H Q) := W_if_eq (rfl : (pj lw).1 14 1 = some (.ifCond .eq 8, 3, 0)) rfl
theorem w14_4 {x : Int32} {l0 : Slot} : W (pj lw) 14 4 (l0 :: .val (.int x) :: L) S k n H Q ↔ W (pj lw) 14 5 (l0 :: .val (.int x) :: L) (.int x :: S) k n H Q := W_s (rfl : (pj lw).1 14 4 = some (.iload_n 1, 1, 0)) rfl rfl rfl
theorem w14_5 : W (pj lw) 14 5 L S k n H Q ↔ W (pj lw) 14 6 L (.int 1 :: S) k n H Q := W_s (rfl : (pj lw).1 14 5 = some (.iconst 1, 1, 0)) rfl rfl rfl
theorem w14_6 {x y : Int32} : W (pj lw) 14 6 L (.int y :: .int x :: S) k n H Q ↔ (if x = y then W (pj lw) 14 9 L S k n H Q else W (pj lw) 14 19 L S k n H Q) := W_icmp_ne (rfl : (pj lw).1 14 6 = some (.if_icmp .ne 13, 3, 0)) rfl
theorem w14_9 {x : Int32} {l0 l1 : Slot} : W (pj lw) 14 9 (l0 :: l1 :: .val (.int x) :: L) S k n H Q ↔ W (pj lw) 14 10 (l0 :: l1 :: .val (.int x) :: L) (.int x :: S) k n H Q := W_s (rfl : (pj lw).1 14 9 = some (.iload_n 2, 1, 0)) rfl rfl rfl
theorem w14_10 {x : Int32} : W (pj lw) 14 10 L (.int x :: S) k n H Q ↔ (if x < 0 then W (pj lw) 14 19 L S k n H Q else W (pj lw) 14 13 L S k n H Q) := W_if_lt (rfl : (pj lw).1 14 10 = some (.ifCond .lt 9, 3, 0)) rfl
theorem w14_13 {x : Int32} {l0 l1 : Slot} : W (pj lw) 14 13 (l0 :: l1 :: .val (.int x) :: L) S k n H Q ↔ W (pj lw) 14 14 (l0 :: l1 :: .val (.int x) :: L) (.int x :: S) k n H Q := W_s (rfl : (pj lw).1 14 13 = some (.iload_n 2, 1, 0)) rfl rfl rfl
theorem w14_14 : W (pj lw) 14 14 L S k n H Q ↔ W (pj lw) 14 16 L (.int 7 :: S) k n H Q := W_s (rfl : (pj lw).1 14 14 = some (.bipush 7, 2, 0)) rfl rfl rfl
theorem w14_16 {x y : Int32} : W (pj lw) 14 16 L (.int y :: .int x :: S) k n H Q ↔ (if y < x then W (pj lw) 14 19 L S k n H Q else W (pj lw) 14 22 L S k n H Q) := W_icmp_le (rfl : (pj lw).1 14 16 = some (.if_icmp .le 6, 3, 0)) rfl
theorem w14_19 : W (pj lw) 14 19 L S k n H Q ↔ W (pj lw) 14 21 L (.int (-99) :: S) k n H Q := W_s (rfl : (pj lw).1 14 19 = some (.bipush (-99), 2, 0)) rfl rfl rfl
theorem w14_21 {x : Int32} : W (pj lw) 14 21 L (.int x :: S) k n H Q ↔ Q (some (.int x)) H := W_r (rfl : (pj lw).1 14 21 = some (.ireturn, 1, 0)) rfl
theorem w14_22 : W (pj lw) 14 22 L S k n H Q ↔ W (pj lw) 14 23 L (.int 0 :: S) k n H Q := W_s (rfl : (pj lw).1 14 22 = some (.iconst 0, 1, 0)) rfl rfl rfl
theorem w14_23 {x : Int32} {l0 l1 l2 : Slot} : W (pj lw) 14 23 (l0 :: l1 :: l2 :: .unset :: L) (.int x :: S) k n H Q ↔ W (pj lw) 14 24 (l0 :: l1 :: l2 :: .val (.int x) :: L) S k n H Q := W_istn (rfl : (pj lw).1 14 23 = some (.istore_n 3, 1, 0)) rfl rfl
theorem w14_24 : W (pj lw) 14 24 L S k n H Q ↔ W (pj lw) 14 25 L (.int 0 :: S) k n H Q := W_s (rfl : (pj lw).1 14 24 = some (.iconst 0, 1, 0)) rfl rfl rfl
theorem w14_25 {x : Int32} {l0 l1 l2 l3 : Slot} : W (pj lw) 14 25 (l0 :: l1 :: l2 :: l3 :: .unset :: L) (.int x :: S) k n H Q ↔ W (pj lw) 14 27 (l0 :: l1 :: l2 :: l3 :: .val (.int x) :: L) S k n H Q := W_ist (rfl : (pj lw).1 14 25 = some (.istore 4, 2, 0)) rfl rfl
theorem w14_27 {x : Int32} {l0 l1 l2 l3 : Slot} : W (pj lw) 14 27 (l0 :: l1 :: l2 :: l3 :: .val (.int x) :: L) S k n H Q ↔ W (pj lw) 14 29 (l0 :: l1 :: l2 :: l3 :: .val (.int x) :: L) (.int x :: S) k n H Q := W_s (rfl : (pj lw).1 14 27 = some (.iload 4, 2, 0)) rfl rfl rfl
theorem w14_29 {x : Nat} : W (pj lw) 14 29 (.val (.ref x) :: L) S k n H Q ↔ W (pj lw) 14 30 (.val (.ref x) :: L) (.ref x :: S) k n H Q := W_s (rfl : (pj lw).1 14 29 = some (.aload_n 0, 1, 0)) rfl rfl rfl
theorem w14_30 {a : Nat} : W (pj lw) 14 30 L (.ref a :: S) k n H Q ↔ (isO H a = true ∧ W (pj lw) 14 33 L (fld H a 4 :: S) k n H Q) := W_getf (rfl : (pj lw).1 14 30 = some (.getfield 63, 3, 4))
theorem w14_33 {x y : Int32} : W (pj lw) 14 33 L (.int y :: .int x :: S) k n H Q ↔ (if x < y then W (pj lw) 14 36 L S k n H Q else W (pj lw) 14 137 L S k n H Q) := W_icmp_ge (rfl : (pj lw).1 14 33 = some (.if_icmp .ge 104, 3, 0)) rfl
theorem w14_36 {x : Int32} {l0 : Slot} : W (pj lw) 14 36 (l0 :: .val (.int x) :: L) S k n H Q ↔ W (pj lw) 14 37 (l0 :: .val (.int x) :: L) (.int x :: S) k n H Q := W_s (rfl : (pj lw).1 14 36 = some (.iload_n 1, 1, 0)) rfl rfl rfl
theorem w14_37 {x : Int32} : W (pj lw) 14 37 L (.int x :: S) k n H Q ↔ (if x = 0 then W (pj lw) 14 40 L S k n H Q else W (pj lw) 14 78 L S k n H Q) := W_if_ne (rfl : (pj lw).1 14 37 = some (.ifCond .ne 41, 3, 0)) rfl
theorem w14_40 {x : Nat} : W (pj lw) 14 40 (.val (.ref x) :: L) S k n H Q ↔ W (pj lw) 14 41 (.val (.ref x) :: L) (.ref x :: S) k n H Q := W_s (rfl : (pj lw).1 14 40 = some (.aload_n 0, 1, 0)) rfl rfl rfl
theorem w14_41 {a : Nat} : W (pj lw) 14 41 L (.ref a :: S) k n H Q ↔ (isO H a = true ∧ W (pj lw) 14 44 L (fld H a 15 :: S) k n H Q) := W_getf (rfl : (pj lw).1 14 41 = some (.getfield 37, 3, 15))
theorem w14_44 {x : Int32} {l0 l1 l2 l3 : Slot} : W (pj lw) 14 44 (l0 :: l1 :: l2 :: l3 :: .val (.int x) :: L) S k n H Q ↔ W (pj lw) 14 46 (l0 :: l1 :: l2 :: l3 :: .val (.int x) :: L) (.int x :: S) k n H Q := W_s (rfl : (pj lw).1 14 44 = some (.iload 4, 2, 0)) rfl rfl rfl
theorem w14_46 {i : Int32} {a : Nat} : W (pj lw) 14 46 L (.int i :: .ref a :: S) k n H Q ↔ (inA H a .int i = true ∧ W (pj lw) 14 47 L (elt H a i :: S) k n H Q) := W_iaload (rfl : (pj lw).1 14 46 = some (.iaload, 1, 0))
theorem w14_47 : W (pj lw) 14 47 L S k n H Q ↔ W (pj lw) 14 48 L (.int (-1) :: S) k n H Q := W_s (rfl : (pj lw).1 14 47 = some (.iconst (-1), 1, 0)) rfl rfl rfl
theorem w14_48 {x y : Int32} : W (pj lw) 14 48 L (.int y :: .int x :: S) k n H Q ↔ (if x = y then W (pj lw) 14 55 L S k n H Q else W (pj lw) 14 51 L S k n H Q) := W_icmp_eq (rfl : (pj lw).1 14 48 = some (.if_icmp .eq 7, 3, 0)) rfl
theorem w14_51 : W (pj lw) 14 51 L S k n H Q ↔ W (pj lw) 14 52 L (.int 1 :: S) k n H Q := W_s (rfl : (pj lw).1 14 51 = some (.iconst 1, 1, 0)) rfl rfl rfl
theorem w14_52 : W (pj lw) 14 52 L S k n H Q ↔ W (pj lw) 14 56 L S k n H Q := W_goto (rfl : (pj lw).1 14 52 = some (.goto 4, 3, 0)) rfl
theorem w14_55 : W (pj lw) 14 55 L S k n H Q ↔ W (pj lw) 14 56 L (.int 0 :: S) k n H Q := W_s (rfl : (pj lw).1 14 55 = some (.iconst 0, 1, 0)) rfl rfl rfl
theorem w14_56i {y : Int32} {x : Int32} {l0 l1 l2 l3 l4 : Slot} : W (pj lw) 14 56 (l0 :: l1 :: l2 :: l3 :: l4 :: .val (.int y) :: L) (.int x :: S) k n H Q ↔ W (pj lw) 14 58 (l0 :: l1 :: l2 :: l3 :: l4 :: .val (.int x) :: L) S k n H Q := W_ist (rfl : (pj lw).1 14 56 = some (.istore 5, 2, 0)) rfl rfl
theorem w14_56 {x : Int32} {l0 l1 l2 l3 l4 : Slot} : W (pj lw) 14 56 (l0 :: l1 :: l2 :: l3 :: l4 :: .unset :: L) (.int x :: S) k n H Q ↔ W (pj lw) 14 58 (l0 :: l1 :: l2 :: l3 :: l4 :: .val (.int x) :: L) S k n H Q := W_ist (rfl : (pj lw).1 14 56 = some (.istore 5, 2, 0)) rfl rfl
theorem w14_58 {x : Nat} : W (pj lw) 14 58 (.val (.ref x) :: L) S k n H Q ↔ W (pj lw) 14 59 (.val (.ref x) :: L) (.ref x :: S) k n H Q := W_s (rfl : (pj lw).1 14 58 = some (.aload_n 0, 1, 0)) rfl rfl rfl
theorem w14_59 {a : Nat} : W (pj lw) 14 59 L (.ref a :: S) k n H Q ↔ (isO H a = true ∧ W (pj lw) 14 62 L (fld H a 15 :: S) k n H Q) := W_getf (rfl : (pj lw).1 14 59 = some (.getfield 37, 3, 15))
theorem w14_62 {x : Int32} {l0 l1 l2 l3 : Slot} : W (pj lw) 14 62 (l0 :: l1 :: l2 :: l3 :: .val (.int x) :: L) S k n H Q ↔ W (pj lw) 14 64 (l0 :: l1 :: l2 :: l3 :: .val (.int x) :: L) (.int x :: S) k n H Q := W_s (rfl : (pj lw).1 14 62 = some (.iload 4, 2, 0)) rfl rfl rfl
theorem w14_64 {i : Int32} {a : Nat} : W (pj lw) 14 64 L (.int i :: .ref a :: S) k n H Q ↔ (inA H a .int i = true ∧ W (pj lw) 14 65 L (elt H a i :: S) k n H Q) := W_iaload (rfl : (pj lw).1 14 64 = some (.iaload, 1, 0))
theorem w14_65 {x : Nat} : W (pj lw) 14 65 (.val (.ref x) :: L) S k n H Q ↔ W (pj lw) 14 66 (.val (.ref x) :: L) (.ref x :: S) k n H Q := W_s (rfl : (pj lw).1 14 65 = some (.aload_n 0, 1, 0)) rfl rfl rfl
theorem w14_66 {a : Nat} : W (pj lw) 14 66 L (.ref a :: S) k n H Q ↔ (isO H a = true ∧ W (pj lw) 14 69 L (fld H a 14 :: S) k n H Q) := W_getf (rfl : (pj lw).1 14 66 = some (.getfield 34, 3, 14))
theorem w14_69 {x : Int32} {l0 l1 l2 l3 : Slot} : W (pj lw) 14 69 (l0 :: l1 :: l2 :: l3 :: .val (.int x) :: L) S k n H Q ↔ W (pj lw) 14 71 (l0 :: l1 :: l2 :: l3 :: .val (.int x) :: L) (.int x :: S) k n H Q := W_s (rfl : (pj lw).1 14 69 = some (.iload 4, 2, 0)) rfl rfl rfl
theorem w14_71 {i : Int32} {a : Nat} : W (pj lw) 14 71 L (.int i :: .ref a :: S) k n H Q ↔ (inA H a .int i = true ∧ W (pj lw) 14 72 L (elt H a i :: S) k n H Q) := W_iaload (rfl : (pj lw).1 14 71 = some (.iaload, 1, 0))
theorem w14_72 {x y : Int32} : W (pj lw) 14 72 L (.int y :: .int x :: S) k n H Q ↔ W (pj lw) 14 73 L (.int (x - y) :: S) k n H Q := W_s (rfl : (pj lw).1 14 72 = some (.isub, 1, 0)) rfl rfl rfl
theorem w14_73i {y : Int32} {x : Int32} {l0 l1 l2 l3 l4 l5 : Slot} : W (pj lw) 14 73 (l0 :: l1 :: l2 :: l3 :: l4 :: l5 :: .val (.int y) :: L) (.int x :: S) k n H Q ↔ W (pj lw) 14 75 (l0 :: l1 :: l2 :: l3 :: l4 :: l5 :: .val (.int x) :: L) S k n H Q := W_ist (rfl : (pj lw).1 14 73 = some (.istore 6, 2, 0)) rfl rfl
theorem w14_73 {x : Int32} {l0 l1 l2 l3 l4 l5 : Slot} : W (pj lw) 14 73 (l0 :: l1 :: l2 :: l3 :: l4 :: l5 :: .unset :: L) (.int x :: S) k n H Q ↔ W (pj lw) 14 75 (l0 :: l1 :: l2 :: l3 :: l4 :: l5 :: .val (.int x) :: L) S k n H Q := W_ist (rfl : (pj lw).1 14 73 = some (.istore 6, 2, 0)) rfl rfl
theorem w14_75 : W (pj lw) 14 75 L S k n H Q ↔ W (pj lw) 14 113 L S k n H Q := W_goto (rfl : (pj lw).1 14 75 = some (.goto 38, 3, 0)) rfl
theorem w14_78 {x : Nat} : W (pj lw) 14 78 (.val (.ref x) :: L) S k n H Q ↔ W (pj lw) 14 79 (.val (.ref x) :: L) (.ref x :: S) k n H Q := W_s (rfl : (pj lw).1 14 78 = some (.aload_n 0, 1, 0)) rfl rfl rfl
theorem w14_79 {a : Nat} : W (pj lw) 14 79 L (.ref a :: S) k n H Q ↔ (isO H a = true ∧ W (pj lw) 14 82 L (fld H a 11 :: S) k n H Q) := W_getf (rfl : (pj lw).1 14 79 = some (.getfield 25, 3, 11))
theorem w14_82 {x : Int32} {l0 l1 l2 l3 : Slot} : W (pj lw) 14 82 (l0 :: l1 :: l2 :: l3 :: .val (.int x) :: L) S k n H Q ↔ W (pj lw) 14 84 (l0 :: l1 :: l2 :: l3 :: .val (.int x) :: L) (.int x :: S) k n H Q := W_s (rfl : (pj lw).1 14 82 = some (.iload 4, 2, 0)) rfl rfl rfl
theorem w14_84 {i : Int32} {a : Nat} : W (pj lw) 14 84 L (.int i :: .ref a :: S) k n H Q ↔ (inA H a .int i = true ∧ W (pj lw) 14 85 L (elt H a i :: S) k n H Q) := W_iaload (rfl : (pj lw).1 14 84 = some (.iaload, 1, 0))
theorem w14_85 : W (pj lw) 14 85 L S k n H Q ↔ W (pj lw) 14 86 L (.int 3 :: S) k n H Q := W_s (rfl : (pj lw).1 14 85 = some (.iconst 3, 1, 0)) rfl rfl rfl
theorem w14_86 {x y : Int32} : W (pj lw) 14 86 L (.int y :: .int x :: S) k n H Q ↔ (if x = y then W (pj lw) 14 89 L S k n H Q else W (pj lw) 14 93 L S k n H Q) := W_icmp_ne (rfl : (pj lw).1 14 86 = some (.if_icmp .ne 7, 3, 0)) rfl
theorem w14_89 : W (pj lw) 14 89 L S k n H Q ↔ W (pj lw) 14 90 L (.int 1 :: S) k n H Q := W_s (rfl : (pj lw).1 14 89 = some (.iconst 1, 1, 0)) rfl rfl rfl
theorem w14_90 : W (pj lw) 14 90 L S k n H Q ↔ W (pj lw) 14 94 L S k n H Q := W_goto (rfl : (pj lw).1 14 90 = some (.goto 4, 3, 0)) rfl
theorem w14_93 : W (pj lw) 14 93 L S k n H Q ↔ W (pj lw) 14 94 L (.int 0 :: S) k n H Q := W_s (rfl : (pj lw).1 14 93 = some (.iconst 0, 1, 0)) rfl rfl rfl
theorem w14_94i {y : Int32} {x : Int32} {l0 l1 l2 l3 l4 : Slot} : W (pj lw) 14 94 (l0 :: l1 :: l2 :: l3 :: l4 :: .val (.int y) :: L) (.int x :: S) k n H Q ↔ W (pj lw) 14 96 (l0 :: l1 :: l2 :: l3 :: l4 :: .val (.int x) :: L) S k n H Q := W_ist (rfl : (pj lw).1 14 94 = some (.istore 5, 2, 0)) rfl rfl
theorem w14_94 {x : Int32} {l0 l1 l2 l3 l4 : Slot} : W (pj lw) 14 94 (l0 :: l1 :: l2 :: l3 :: l4 :: .unset :: L) (.int x :: S) k n H Q ↔ W (pj lw) 14 96 (l0 :: l1 :: l2 :: l3 :: l4 :: .val (.int x) :: L) S k n H Q := W_ist (rfl : (pj lw).1 14 94 = some (.istore 5, 2, 0)) rfl rfl
theorem w14_96 {x : Nat} : W (pj lw) 14 96 (.val (.ref x) :: L) S k n H Q ↔ W (pj lw) 14 97 (.val (.ref x) :: L) (.ref x :: S) k n H Q := W_s (rfl : (pj lw).1 14 96 = some (.aload_n 0, 1, 0)) rfl rfl rfl
theorem w14_97 {a : Nat} : W (pj lw) 14 97 L (.ref a :: S) k n H Q ↔ (isO H a = true ∧ W (pj lw) 14 100 L (fld H a 16 :: S) k n H Q) := W_getf (rfl : (pj lw).1 14 97 = some (.getfield 40, 3, 16))
theorem w14_100 {x : Int32} {l0 l1 l2 l3 : Slot} : W (pj lw) 14 100 (l0 :: l1 :: l2 :: l3 :: .val (.int x) :: L) S k n H Q ↔ W (pj lw) 14 102 (l0 :: l1 :: l2 :: l3 :: .val (.int x) :: L) (.int x :: S) k n H Q := W_s (rfl : (pj lw).1 14 100 = some (.iload 4, 2, 0)) rfl rfl rfl
theorem w14_102 {i : Int32} {a : Nat} : W (pj lw) 14 102 L (.int i :: .ref a :: S) k n H Q ↔ (inA H a .int i = true ∧ W (pj lw) 14 103 L (elt H a i :: S) k n H Q) := W_iaload (rfl : (pj lw).1 14 102 = some (.iaload, 1, 0))
theorem w14_103 {x : Nat} : W (pj lw) 14 103 (.val (.ref x) :: L) S k n H Q ↔ W (pj lw) 14 104 (.val (.ref x) :: L) (.ref x :: S) k n H Q := W_s (rfl : (pj lw).1 14 103 = some (.aload_n 0, 1, 0)) rfl rfl rfl
theorem w14_104 {a : Nat} : W (pj lw) 14 104 L (.ref a :: S) k n H Q ↔ (isO H a = true ∧ W (pj lw) 14 107 L (fld H a 14 :: S) k n H Q) := W_getf (rfl : (pj lw).1 14 104 = some (.getfield 34, 3, 14))
theorem w14_107 {x : Int32} {l0 l1 l2 l3 : Slot} : W (pj lw) 14 107 (l0 :: l1 :: l2 :: l3 :: .val (.int x) :: L) S k n H Q ↔ W (pj lw) 14 109 (l0 :: l1 :: l2 :: l3 :: .val (.int x) :: L) (.int x :: S) k n H Q := W_s (rfl : (pj lw).1 14 107 = some (.iload 4, 2, 0)) rfl rfl rfl
theorem w14_109 {i : Int32} {a : Nat} : W (pj lw) 14 109 L (.int i :: .ref a :: S) k n H Q ↔ (inA H a .int i = true ∧ W (pj lw) 14 110 L (elt H a i :: S) k n H Q) := W_iaload (rfl : (pj lw).1 14 109 = some (.iaload, 1, 0))
theorem w14_110 {x y : Int32} : W (pj lw) 14 110 L (.int y :: .int x :: S) k n H Q ↔ W (pj lw) 14 111 L (.int (x - y) :: S) k n H Q := W_s (rfl : (pj lw).1 14 110 = some (.isub, 1, 0)) rfl rfl rfl
theorem w14_111i {y : Int32} {x : Int32} {l0 l1 l2 l3 l4 l5 : Slot} : W (pj lw) 14 111 (l0 :: l1 :: l2 :: l3 :: l4 :: l5 :: .val (.int y) :: L) (.int x :: S) k n H Q ↔ W (pj lw) 14 113 (l0 :: l1 :: l2 :: l3 :: l4 :: l5 :: .val (.int x) :: L) S k n H Q := W_ist (rfl : (pj lw).1 14 111 = some (.istore 6, 2, 0)) rfl rfl
theorem w14_111 {x : Int32} {l0 l1 l2 l3 l4 l5 : Slot} : W (pj lw) 14 111 (l0 :: l1 :: l2 :: l3 :: l4 :: l5 :: .unset :: L) (.int x :: S) k n H Q ↔ W (pj lw) 14 113 (l0 :: l1 :: l2 :: l3 :: l4 :: l5 :: .val (.int x) :: L) S k n H Q := W_ist (rfl : (pj lw).1 14 111 = some (.istore 6, 2, 0)) rfl rfl
theorem w14_113 {x : Int32} {l0 l1 l2 l3 l4 : Slot} : W (pj lw) 14 113 (l0 :: l1 :: l2 :: l3 :: l4 :: .val (.int x) :: L) S k n H Q ↔ W (pj lw) 14 115 (l0 :: l1 :: l2 :: l3 :: l4 :: .val (.int x) :: L) (.int x :: S) k n H Q := W_s (rfl : (pj lw).1 14 113 = some (.iload 5, 2, 0)) rfl rfl rfl
theorem w14_115 {x : Int32} : W (pj lw) 14 115 L (.int x :: S) k n H Q ↔ (if x = 0 then W (pj lw) 14 131 L S k n H Q else W (pj lw) 14 118 L S k n H Q) := W_if_eq (rfl : (pj lw).1 14 115 = some (.ifCond .eq 16, 3, 0)) rfl
theorem w14_118 {x : Nat} : W (pj lw) 14 118 (.val (.ref x) :: L) S k n H Q ↔ W (pj lw) 14 119 (.val (.ref x) :: L) (.ref x :: S) k n H Q := W_s (rfl : (pj lw).1 14 118 = some (.aload_n 0, 1, 0)) rfl rfl rfl
theorem w14_119 {x : Int32} {l0 l1 l2 l3 l4 l5 : Slot} : W (pj lw) 14 119 (l0 :: l1 :: l2 :: l3 :: l4 :: l5 :: .val (.int x) :: L) S k n H Q ↔ W (pj lw) 14 121 (l0 :: l1 :: l2 :: l3 :: l4 :: l5 :: .val (.int x) :: L) (.int x :: S) k n H Q := W_s (rfl : (pj lw).1 14 119 = some (.iload 6, 2, 0)) rfl rfl rfl
theorem w14_121 {a : Nat} {x0 : Int32} : W (pj lw) 14 121 L (.int x0 :: .ref a :: S) k n H Q ↔ ((isO H a = true ∧ cs S + (2 + 11) + 0 ≤ 13) ∧ Cl (pj lw) 16 [.ref a, .int x0] H (fun v H => W (pj lw) 14 124 L (v.toList ++ S) k n H Q)) := W_inst (as := [.int x0]) (rfl : (pj lw).1 14 121 = some (.invokevirtual 87, 3, 16)) rfl rfl rfl (Nat.le_of_ble_eq_true rfl) (Nat.le_of_ble_eq_true rfl) ⟨rfl, rfl⟩
theorem w14_124 {x : Int32} {l0 l1 : Slot} : W (pj lw) 14 124 (l0 :: l1 :: .val (.int x) :: L) S k n H Q ↔ W (pj lw) 14 125 (l0 :: l1 :: .val (.int x) :: L) (.int x :: S) k n H Q := W_s (rfl : (pj lw).1 14 124 = some (.iload_n 2, 1, 0)) rfl rfl rfl
theorem w14_125 {x y : Int32} : W (pj lw) 14 125 L (.int y :: .int x :: S) k n H Q ↔ (if x = y then W (pj lw) 14 128 L S k n H Q else W (pj lw) 14 131 L S k n H Q) := W_icmp_ne (rfl : (pj lw).1 14 125 = some (.if_icmp .ne 6, 3, 0)) rfl
theorem w14_128 {x : Int32} {l0 l1 l2 : Slot} : W (pj lw) 14 128 (l0 :: l1 :: l2 :: .val (.int x) :: L) S k n H Q ↔ W (pj lw) 14 131 (l0 :: l1 :: l2 :: .val (.int (x + 1)) :: L) S k n H Q := W_s (rfl : (pj lw).1 14 128 = some (.iinc 3 1, 3, 0)) rfl rfl rfl
theorem w14_131 {x : Int32} {l0 l1 l2 l3 : Slot} : W (pj lw) 14 131 (l0 :: l1 :: l2 :: l3 :: .val (.int x) :: L) S k n H Q ↔ W (pj lw) 14 134 (l0 :: l1 :: l2 :: l3 :: .val (.int (x + 1)) :: L) S k n H Q := W_s (rfl : (pj lw).1 14 131 = some (.iinc 4 1, 3, 0)) rfl rfl rfl
theorem w14_134 : W (pj lw) 14 134 L S k n H Q ↔ W (pj lw) 14 27 L S k n H Q := W_goto (rfl : (pj lw).1 14 134 = some (.goto (-107), 3, 0)) rfl
theorem w14_137 {x : Int32} {l0 l1 l2 : Slot} : W (pj lw) 14 137 (l0 :: l1 :: l2 :: .val (.int x) :: L) S k n H Q ↔ W (pj lw) 14 138 (l0 :: l1 :: l2 :: .val (.int x) :: L) (.int x :: S) k n H Q := W_s (rfl : (pj lw).1 14 137 = some (.iload_n 3, 1, 0)) rfl rfl rfl
theorem w14_138 {x : Int32} : W (pj lw) 14 138 L (.int x :: S) k n H Q ↔ Q (some (.int x)) H := W_r (rfl : (pj lw).1 14 138 = some (.ireturn, 1, 0)) rfl
theorem c15 {x0 : Nat} {x1 : Int32} {x2 : Int32} {x3 : Int32} : Cl (pj lw) 15 [.ref x0, .int x1, .int x2, .int x3] H Q ↔ W (pj lw) 15 0 [.val (.ref x0), .val (.int x1), .val (.int x2), .val (.int x3)] [] 0 0 H Q := cl_unf rfl
theorem w15_0 {x : Int32} {l0 : Slot} : W (pj lw) 15 0 (l0 :: .val (.int x) :: L) S k n H Q ↔ W (pj lw) 15 1 (l0 :: .val (.int x) :: L) (.int x :: S) k n H Q := W_s (rfl : (pj lw).1 15 0 = some (.iload_n 1, 1, 0)) rfl rfl rfl
theorem w15_1 {x : Int32} {l0 l1 : Slot} : W (pj lw) 15 1 (l0 :: l1 :: .val (.int x) :: L) S k n H Q ↔ W (pj lw) 15 2 (l0 :: l1 :: .val (.int x) :: L) (.int x :: S) k n H Q := W_s (rfl : (pj lw).1 15 1 = some (.iload_n 2, 1, 0)) rfl rfl rfl
theorem w15_2 {x y : Int32} : W (pj lw) 15 2 L (.int y :: .int x :: S) k n H Q ↔ (if x < y then W (pj lw) 15 5 L S k n H Q else W (pj lw) 15 7 L S k n H Q) := W_icmp_ge (rfl : (pj lw).1 15 2 = some (.if_icmp .ge 5, 3, 0)) rfl
theorem w15_5 {x : Int32} {l0 l1 : Slot} : W (pj lw) 15 5 (l0 :: l1 :: .val (.int x) :: L) S k n H Q ↔ W (pj lw) 15 6 (l0 :: l1 :: .val (.int x) :: L) (.int x :: S) k n H Q := W_s (rfl : (pj lw).1 15 5 = some (.iload_n 2, 1, 0)) rfl rfl rfl
theorem w15_6 {x : Int32} : W (pj lw) 15 6 L (.int x :: S) k n H Q ↔ Q (some (.int x)) H := W_r (rfl : (pj lw).1 15 6 = some (.ireturn, 1, 0)) rfl
theorem w15_7 {x : Int32} {l0 : Slot} : W (pj lw) 15 7 (l0 :: .val (.int x) :: L) S k n H Q ↔ W (pj lw) 15 8 (l0 :: .val (.int x) :: L) (.int x :: S) k n H Q := W_s (rfl : (pj lw).1 15 7 = some (.iload_n 1, 1, 0)) rfl rfl rfl
theorem w15_8 {x : Int32} {l0 l1 l2 : Slot} : W (pj lw) 15 8 (l0 :: l1 :: l2 :: .val (.int x) :: L) S k n H Q ↔ W (pj lw) 15 9 (l0 :: l1 :: l2 :: .val (.int x) :: L) (.int x :: S) k n H Q := W_s (rfl : (pj lw).1 15 8 = some (.iload_n 3, 1, 0)) rfl rfl rfl
theorem w15_9 {x y : Int32} : W (pj lw) 15 9 L (.int y :: .int x :: S) k n H Q ↔ (if y < x then W (pj lw) 15 12 L S k n H Q else W (pj lw) 15 14 L S k n H Q) := W_icmp_le (rfl : (pj lw).1 15 9 = some (.if_icmp .le 5, 3, 0)) rfl
theorem w15_12 {x : Int32} {l0 l1 l2 : Slot} : W (pj lw) 15 12 (l0 :: l1 :: l2 :: .val (.int x) :: L) S k n H Q ↔ W (pj lw) 15 13 (l0 :: l1 :: l2 :: .val (.int x) :: L) (.int x :: S) k n H Q := W_s (rfl : (pj lw).1 15 12 = some (.iload_n 3, 1, 0)) rfl rfl rfl
theorem w15_13 {x : Int32} : W (pj lw) 15 13 L (.int x :: S) k n H Q ↔ Q (some (.int x)) H := W_r (rfl : (pj lw).1 15 13 = some (.ireturn, 1, 0)) rfl
theorem w15_14 {x : Int32} {l0 : Slot} : W (pj lw) 15 14 (l0 :: .val (.int x) :: L) S k n H Q ↔ W (pj lw) 15 15 (l0 :: .val (.int x) :: L) (.int x :: S) k n H Q := W_s (rfl : (pj lw).1 15 14 = some (.iload_n 1, 1, 0)) rfl rfl rfl
theorem w15_15 {x : Int32} : W (pj lw) 15 15 L (.int x :: S) k n H Q ↔ Q (some (.int x)) H := W_r (rfl : (pj lw).1 15 15 = some (.ireturn, 1, 0)) rfl
theorem c16 {x0 : Nat} {x1 : Int32} : Cl (pj lw) 16 [.ref x0, .int x1] H Q ↔ W (pj lw) 16 0 [.val (.ref x0), .val (.int x1)] [] 0 0 H Q := cl_unf rfl
theorem w16_0 {x : Int32} {l0 : Slot} : W (pj lw) 16 0 (l0 :: .val (.int x) :: L) S k n H Q ↔ W (pj lw) 16 1 (l0 :: .val (.int x) :: L) (.int x :: S) k n H Q := W_s (rfl : (pj lw).1 16 0 = some (.iload_n 1, 1, 0)) rfl rfl rfl
theorem w16_1 : W (pj lw) 16 1 L S k n H Q ↔ W (pj lw) 16 3 L (.int 28 :: S) k n H Q := W_s (rfl : (pj lw).1 16 1 = some (.bipush 28, 2, 0)) rfl rfl rfl
theorem w16_3 {x y : Int32} : W (pj lw) 16 3 L (.int y :: .int x :: S) k n H Q ↔ (if x < y then W (pj lw) 16 6 L S k n H Q else W (pj lw) 16 10 L S k n H Q) := W_icmp_ge (rfl : (pj lw).1 16 3 = some (.if_icmp .ge 7, 3, 0)) rfl
theorem w16_6 {x : Int32} {l0 : Slot} : W (pj lw) 16 6 (l0 :: .val (.int x) :: L) S k n H Q ↔ W (pj lw) 16 7 (l0 :: .val (.int x) :: L) (.int x :: S) k n H Q := W_s (rfl : (pj lw).1 16 6 = some (.iload_n 1, 1, 0)) rfl rfl rfl
theorem w16_7 : W (pj lw) 16 7 L S k n H Q ↔ W (pj lw) 16 8 L (.int 4 :: S) k n H Q := W_s (rfl : (pj lw).1 16 7 = some (.iconst 4, 1, 0)) rfl rfl rfl
theorem w16_8 {x y : Int32} : W (pj lw) 16 8 L (.int y :: .int x :: S) k n H Q ↔ (¬ y = 0 ∧ W (pj lw) 16 9 L (.int (x / y) :: S) k n H Q) := W_idiv (rfl : (pj lw).1 16 8 = some (.idiv, 1, 0))
theorem w16_9 {x : Int32} : W (pj lw) 16 9 L (.int x :: S) k n H Q ↔ Q (some (.int x)) H := W_r (rfl : (pj lw).1 16 9 = some (.ireturn, 1, 0)) rfl
theorem w16_10 : W (pj lw) 16 10 L S k n H Q ↔ W (pj lw) 16 12 L (.int 7 :: S) k n H Q := W_s (rfl : (pj lw).1 16 10 = some (.bipush 7, 2, 0)) rfl rfl rfl
theorem w16_12 {x : Int32} : W (pj lw) 16 12 L (.int x :: S) k n H Q ↔ Q (some (.int x)) H := W_r (rfl : (pj lw).1 16 12 = some (.ireturn, 1, 0)) rfl
theorem c17 {x0 : Nat} {x1 : Int32} : Cl (pj lw) 17 [.ref x0, .int x1] H Q ↔ W (pj lw) 17 0 [.val (.ref x0), .val (.int x1)] [] 0 0 H Q := cl_unf rfl
theorem w17_0 {x : Nat} : W (pj lw) 17 0 (.val (.ref x) :: L) S k n H Q ↔ W (pj lw) 17 1 (.val (.ref x) :: L) (.ref x :: S) k n H Q := W_s (rfl : (pj lw).1 17 0 = some (.aload_n 0, 1, 0)) rfl rfl rfl
theorem w17_1 {a : Nat} : W (pj lw) 17 1 L (.ref a :: S) k n H Q ↔ (isO H a = true ∧ W (pj lw) 17 4 L (fld H a 13 :: S) k n H Q) := W_getf (rfl : (pj lw).1 17 1 = some (.getfield 31, 3, 13))
theorem w17_4 {x : Int32} {l0 : Slot} : W (pj lw) 17 4 (l0 :: .val (.int x) :: L) S k n H Q ↔ W (pj lw) 17 5 (l0 :: .val (.int x) :: L) (.int x :: S) k n H Q := W_s (rfl : (pj lw).1 17 4 = some (.iload_n 1, 1, 0)) rfl rfl rfl
theorem w17_5 {i : Int32} {a : Nat} : W (pj lw) 17 5 L (.int i :: .ref a :: S) k n H Q ↔ (inA H a .int i = true ∧ W (pj lw) 17 6 L (elt H a i :: S) k n H Q) := W_iaload (rfl : (pj lw).1 17 5 = some (.iaload, 1, 0))
theorem w17_6 {x : Nat} : W (pj lw) 17 6 (.val (.ref x) :: L) S k n H Q ↔ W (pj lw) 17 7 (.val (.ref x) :: L) (.ref x :: S) k n H Q := W_s (rfl : (pj lw).1 17 6 = some (.aload_n 0, 1, 0)) rfl rfl rfl
theorem w17_7 {a : Nat} : W (pj lw) 17 7 L (.ref a :: S) k n H Q ↔ (isO H a = true ∧ W (pj lw) 17 10 L (fld H a 12 :: S) k n H Q) := W_getf (rfl : (pj lw).1 17 7 = some (.getfield 28, 3, 12))
theorem w17_10 {x : Int32} {l0 : Slot} : W (pj lw) 17 10 (l0 :: .val (.int x) :: L) S k n H Q ↔ W (pj lw) 17 11 (l0 :: .val (.int x) :: L) (.int x :: S) k n H Q := W_s (rfl : (pj lw).1 17 10 = some (.iload_n 1, 1, 0)) rfl rfl rfl
theorem w17_11 {i : Int32} {a : Nat} : W (pj lw) 17 11 L (.int i :: .ref a :: S) k n H Q ↔ (inA H a .int i = true ∧ W (pj lw) 17 12 L (elt H a i :: S) k n H Q) := W_iaload (rfl : (pj lw).1 17 11 = some (.iaload, 1, 0))
theorem w17_12 {x y : Int32} : W (pj lw) 17 12 L (.int y :: .int x :: S) k n H Q ↔ (if y < x then W (pj lw) 17 15 L S k n H Q else W (pj lw) 17 19 L S k n H Q) := W_icmp_le (rfl : (pj lw).1 17 12 = some (.if_icmp .le 7, 3, 0)) rfl
theorem w17_15 : W (pj lw) 17 15 L S k n H Q ↔ W (pj lw) 17 16 L (.int 1 :: S) k n H Q := W_s (rfl : (pj lw).1 17 15 = some (.iconst 1, 1, 0)) rfl rfl rfl
theorem w17_16 : W (pj lw) 17 16 L S k n H Q ↔ W (pj lw) 17 20 L S k n H Q := W_goto (rfl : (pj lw).1 17 16 = some (.goto 4, 3, 0)) rfl
theorem w17_19 : W (pj lw) 17 19 L S k n H Q ↔ W (pj lw) 17 20 L (.int (-1) :: S) k n H Q := W_s (rfl : (pj lw).1 17 19 = some (.iconst (-1), 1, 0)) rfl rfl rfl
theorem w17_20 {x : Int32} : W (pj lw) 17 20 L (.int x :: S) k n H Q ↔ Q (some (.int x)) H := W_r (rfl : (pj lw).1 17 20 = some (.ireturn, 1, 0)) rfl
theorem c18 {x0 : Nat} {x1 : Int32} {x2 : Int32} : Cl (pj lw) 18 [.ref x0, .int x1, .int x2] H Q ↔ W (pj lw) 18 0 [.val (.ref x0), .val (.int x1), .val (.int x2)] [] 0 0 H Q := cl_unf rfl
theorem w18_0 {x : Int32} {l0 : Slot} : W (pj lw) 18 0 (l0 :: .val (.int x) :: L) S k n H Q ↔ W (pj lw) 18 1 (l0 :: .val (.int x) :: L) (.int x :: S) k n H Q := W_s (rfl : (pj lw).1 18 0 = some (.iload_n 1, 1, 0)) rfl rfl rfl
theorem w18_1 : W (pj lw) 18 1 L S k n H Q ↔ W (pj lw) 18 2 L (.int 2 :: S) k n H Q := W_s (rfl : (pj lw).1 18 1 = some (.iconst 2, 1, 0)) rfl rfl rfl
theorem w18_2 {x y : Int32} : W (pj lw) 18 2 L (.int y :: .int x :: S) k n H Q ↔ W (pj lw) 18 3 L (.int (x * y) :: S) k n H Q := W_s (rfl : (pj lw).1 18 2 = some (.imul, 1, 0)) rfl rfl rfl
theorem w18_3 {x : Int32} {l0 l1 : Slot} : W (pj lw) 18 3 (l0 :: l1 :: .val (.int x) :: L) S k n H Q ↔ W (pj lw) 18 4 (l0 :: l1 :: .val (.int x) :: L) (.int x :: S) k n H Q := W_s (rfl : (pj lw).1 18 3 = some (.iload_n 2, 1, 0)) rfl rfl rfl
theorem w18_4 : W (pj lw) 18 4 L S k n H Q ↔ W (pj lw) 18 5 L (.int 1 :: S) k n H Q := W_s (rfl : (pj lw).1 18 4 = some (.iconst 1, 1, 0)) rfl rfl rfl
theorem w18_5 {x y : Int32} : W (pj lw) 18 5 L (.int y :: .int x :: S) k n H Q ↔ (if x = y then W (pj lw) 18 8 L S k n H Q else W (pj lw) 18 12 L S k n H Q) := W_icmp_ne (rfl : (pj lw).1 18 5 = some (.if_icmp .ne 7, 3, 0)) rfl
theorem w18_8 : W (pj lw) 18 8 L S k n H Q ↔ W (pj lw) 18 9 L (.int 0 :: S) k n H Q := W_s (rfl : (pj lw).1 18 8 = some (.iconst 0, 1, 0)) rfl rfl rfl
theorem w18_9 : W (pj lw) 18 9 L S k n H Q ↔ W (pj lw) 18 13 L S k n H Q := W_goto (rfl : (pj lw).1 18 9 = some (.goto 4, 3, 0)) rfl
theorem w18_12 : W (pj lw) 18 12 L S k n H Q ↔ W (pj lw) 18 13 L (.int 1 :: S) k n H Q := W_s (rfl : (pj lw).1 18 12 = some (.iconst 1, 1, 0)) rfl rfl rfl
theorem w18_13 {x y : Int32} : W (pj lw) 18 13 L (.int y :: .int x :: S) k n H Q ↔ W (pj lw) 18 14 L (.int (x + y) :: S) k n H Q := W_s (rfl : (pj lw).1 18 13 = some (.iadd, 1, 0)) rfl rfl rfl
theorem w18_14 {x : Int32} : W (pj lw) 18 14 L (.int x :: S) k n H Q ↔ Q (some (.int x)) H := W_r (rfl : (pj lw).1 18 14 = some (.ireturn, 1, 0)) rfl
theorem c19 {x0 : Nat} {x1 : Int32} {x2 : Int32} : Cl (pj lw) 19 [.ref x0, .int x1, .int x2] H Q ↔ W (pj lw) 19 0 [.val (.ref x0), .val (.int x1), .val (.int x2), .unset] [] 0 0 H Q := cl_unf rfl
theorem w19_0 : W (pj lw) 19 0 L S k n H Q ↔ W (pj lw) 19 1 L (.int 0 :: S) k n H Q := W_s (rfl : (pj lw).1 19 0 = some (.iconst 0, 1, 0)) rfl rfl rfl
theorem w19_1 {x : Int32} {l0 l1 l2 : Slot} : W (pj lw) 19 1 (l0 :: l1 :: l2 :: .unset :: L) (.int x :: S) k n H Q ↔ W (pj lw) 19 2 (l0 :: l1 :: l2 :: .val (.int x) :: L) S k n H Q := W_istn (rfl : (pj lw).1 19 1 = some (.istore_n 3, 1, 0)) rfl rfl
theorem w19_2 {x : Int32} {l0 l1 l2 : Slot} : W (pj lw) 19 2 (l0 :: l1 :: l2 :: .val (.int x) :: L) S k n H Q ↔ W (pj lw) 19 3 (l0 :: l1 :: l2 :: .val (.int x) :: L) (.int x :: S) k n H Q := W_s (rfl : (pj lw).1 19 2 = some (.iload_n 3, 1, 0)) rfl rfl rfl
theorem w19_3 {x : Nat} : W (pj lw) 19 3 (.val (.ref x) :: L) S k n H Q ↔ W (pj lw) 19 4 (.val (.ref x) :: L) (.ref x :: S) k n H Q := W_s (rfl : (pj lw).1 19 3 = some (.aload_n 0, 1, 0)) rfl rfl rfl
theorem w19_4 {a : Nat} : W (pj lw) 19 4 L (.ref a :: S) k n H Q ↔ (isO H a = true ∧ W (pj lw) 19 7 L (fld H a 4 :: S) k n H Q) := W_getf (rfl : (pj lw).1 19 4 = some (.getfield 63, 3, 4))
theorem w19_7 {x y : Int32} : W (pj lw) 19 7 L (.int y :: .int x :: S) k n H Q ↔ (if x < y then W (pj lw) 19 10 L S k n H Q else W (pj lw) 19 47 L S k n H Q) := W_icmp_ge (rfl : (pj lw).1 19 7 = some (.if_icmp .ge 40, 3, 0)) rfl
theorem w19_10 {x : Nat} : W (pj lw) 19 10 (.val (.ref x) :: L) S k n H Q ↔ W (pj lw) 19 11 (.val (.ref x) :: L) (.ref x :: S) k n H Q := W_s (rfl : (pj lw).1 19 10 = some (.aload_n 0, 1, 0)) rfl rfl rfl
theorem w19_11 {a : Nat} : W (pj lw) 19 11 L (.ref a :: S) k n H Q ↔ (isO H a = true ∧ W (pj lw) 19 14 L (fld H a 11 :: S) k n H Q) := W_getf (rfl : (pj lw).1 19 11 = some (.getfield 25, 3, 11))
theorem w19_14 {x : Int32} {l0 l1 l2 : Slot} : W (pj lw) 19 14 (l0 :: l1 :: l2 :: .val (.int x) :: L) S k n H Q ↔ W (pj lw) 19 15 (l0 :: l1 :: l2 :: .val (.int x) :: L) (.int x :: S) k n H Q := W_s (rfl : (pj lw).1 19 14 = some (.iload_n 3, 1, 0)) rfl rfl rfl
theorem w19_15 {i : Int32} {a : Nat} : W (pj lw) 19 15 L (.int i :: .ref a :: S) k n H Q ↔ (inA H a .int i = true ∧ W (pj lw) 19 16 L (elt H a i :: S) k n H Q) := W_iaload (rfl : (pj lw).1 19 15 = some (.iaload, 1, 0))
theorem w19_16 : W (pj lw) 19 16 L S k n H Q ↔ W (pj lw) 19 17 L (.int 1 :: S) k n H Q := W_s (rfl : (pj lw).1 19 16 = some (.iconst 1, 1, 0)) rfl rfl rfl
theorem w19_17 {x y : Int32} : W (pj lw) 19 17 L (.int y :: .int x :: S) k n H Q ↔ (if x = y then W (pj lw) 19 20 L S k n H Q else W (pj lw) 19 41 L S k n H Q) := W_icmp_ne (rfl : (pj lw).1 19 17 = some (.if_icmp .ne 24, 3, 0)) rfl
theorem w19_20 {x : Nat} : W (pj lw) 19 20 (.val (.ref x) :: L) S k n H Q ↔ W (pj lw) 19 21 (.val (.ref x) :: L) (.ref x :: S) k n H Q := W_s (rfl : (pj lw).1 19 20 = some (.aload_n 0, 1, 0)) rfl rfl rfl
theorem w19_21 {a : Nat} : W (pj lw) 19 21 L (.ref a :: S) k n H Q ↔ (isO H a = true ∧ W (pj lw) 19 24 L (fld H a 12 :: S) k n H Q) := W_getf (rfl : (pj lw).1 19 21 = some (.getfield 28, 3, 12))
theorem w19_24 {x : Int32} {l0 l1 l2 : Slot} : W (pj lw) 19 24 (l0 :: l1 :: l2 :: .val (.int x) :: L) S k n H Q ↔ W (pj lw) 19 25 (l0 :: l1 :: l2 :: .val (.int x) :: L) (.int x :: S) k n H Q := W_s (rfl : (pj lw).1 19 24 = some (.iload_n 3, 1, 0)) rfl rfl rfl
theorem w19_25 {i : Int32} {a : Nat} : W (pj lw) 19 25 L (.int i :: .ref a :: S) k n H Q ↔ (inA H a .int i = true ∧ W (pj lw) 19 26 L (elt H a i :: S) k n H Q) := W_iaload (rfl : (pj lw).1 19 25 = some (.iaload, 1, 0))
theorem w19_26 {x : Int32} {l0 : Slot} : W (pj lw) 19 26 (l0 :: .val (.int x) :: L) S k n H Q ↔ W (pj lw) 19 27 (l0 :: .val (.int x) :: L) (.int x :: S) k n H Q := W_s (rfl : (pj lw).1 19 26 = some (.iload_n 1, 1, 0)) rfl rfl rfl
theorem w19_27 {x y : Int32} : W (pj lw) 19 27 L (.int y :: .int x :: S) k n H Q ↔ (if x = y then W (pj lw) 19 30 L S k n H Q else W (pj lw) 19 41 L S k n H Q) := W_icmp_ne (rfl : (pj lw).1 19 27 = some (.if_icmp .ne 14, 3, 0)) rfl
theorem w19_30 {x : Nat} : W (pj lw) 19 30 (.val (.ref x) :: L) S k n H Q ↔ W (pj lw) 19 31 (.val (.ref x) :: L) (.ref x :: S) k n H Q := W_s (rfl : (pj lw).1 19 30 = some (.aload_n 0, 1, 0)) rfl rfl rfl
theorem w19_31 {x : Int32} {l0 l1 l2 : Slot} : W (pj lw) 19 31 (l0 :: l1 :: l2 :: .val (.int x) :: L) S k n H Q ↔ W (pj lw) 19 32 (l0 :: l1 :: l2 :: .val (.int x) :: L) (.int x :: S) k n H Q := W_s (rfl : (pj lw).1 19 31 = some (.iload_n 3, 1, 0)) rfl rfl rfl
theorem w19_32 {a : Nat} {x0 : Int32} : W (pj lw) 19 32 L (.int x0 :: .ref a :: S) k n H Q ↔ ((isO H a = true ∧ cs S + (2 + 11) + 0 ≤ 13) ∧ Cl (pj lw) 17 [.ref a, .int x0] H (fun v H => W (pj lw) 19 35 L (v.toList ++ S) k n H Q)) := W_inst (as := [.int x0]) (rfl : (pj lw).1 19 32 = some (.invokevirtual 91, 3, 17)) rfl rfl rfl (Nat.le_of_ble_eq_true rfl) (Nat.le_of_ble_eq_true rfl) ⟨rfl, rfl⟩
theorem w19_35 {x : Int32} {l0 l1 : Slot} : W (pj lw) 19 35 (l0 :: l1 :: .val (.int x) :: L) S k n H Q ↔ W (pj lw) 19 36 (l0 :: l1 :: .val (.int x) :: L) (.int x :: S) k n H Q := W_s (rfl : (pj lw).1 19 35 = some (.iload_n 2, 1, 0)) rfl rfl rfl
theorem w19_36 {x y : Int32} : W (pj lw) 19 36 L (.int y :: .int x :: S) k n H Q ↔ (if x = y then W (pj lw) 19 39 L S k n H Q else W (pj lw) 19 41 L S k n H Q) := W_icmp_ne (rfl : (pj lw).1 19 36 = some (.if_icmp .ne 5, 3, 0)) rfl
theorem w19_39 : W (pj lw) 19 39 L S k n H Q ↔ W (pj lw) 19 40 L (.int 1 :: S) k n H Q := W_s (rfl : (pj lw).1 19 39 = some (.iconst 1, 1, 0)) rfl rfl rfl
theorem w19_40 {x : Int32} : W (pj lw) 19 40 L (.int x :: S) k n H Q ↔ ((x = 0 ∨ x = 1) ∧ Q (some (.int x)) H) := W_rz (rfl : (pj lw).1 19 40 = some (.ireturn, 1, 0)) rfl
theorem w19_41 {x : Int32} {l0 l1 l2 : Slot} : W (pj lw) 19 41 (l0 :: l1 :: l2 :: .val (.int x) :: L) S k n H Q ↔ W (pj lw) 19 44 (l0 :: l1 :: l2 :: .val (.int (x + 1)) :: L) S k n H Q := W_s (rfl : (pj lw).1 19 41 = some (.iinc 3 1, 3, 0)) rfl rfl rfl
theorem w19_44 : W (pj lw) 19 44 L S k n H Q ↔ W (pj lw) 19 2 L S k n H Q := W_goto (rfl : (pj lw).1 19 44 = some (.goto (-42), 3, 0)) rfl
theorem w19_47 : W (pj lw) 19 47 L S k n H Q ↔ W (pj lw) 19 48 L (.int 0 :: S) k n H Q := W_s (rfl : (pj lw).1 19 47 = some (.iconst 0, 1, 0)) rfl rfl rfl
theorem w19_48 {x : Int32} : W (pj lw) 19 48 L (.int x :: S) k n H Q ↔ ((x = 0 ∨ x = 1) ∧ Q (some (.int x)) H) := W_rz (rfl : (pj lw).1 19 48 = some (.ireturn, 1, 0)) rfl
theorem c20 {x0 : Nat} {x1 : Int32} {x2 : Int32} {x3 : Int32} : Cl (pj lw) 20 [.ref x0, .int x1, .int x2, .int x3] H Q ↔ W (pj lw) 20 0 [.val (.ref x0), .val (.int x1), .val (.int x2), .val (.int x3)] [] 0 0 H Q := cl_unf rfl
theorem w20_0 {x : Int32} {l0 : Slot} : W (pj lw) 20 0 (l0 :: .val (.int x) :: L) S k n H Q ↔ W (pj lw) 20 1 (l0 :: .val (.int x) :: L) (.int x :: S) k n H Q := W_s (rfl : (pj lw).1 20 0 = some (.iload_n 1, 1, 0)) rfl rfl rfl
theorem w20_1 {x : Int32} : W (pj lw) 20 1 L (.int x :: S) k n H Q ↔ (if x < 0 then W (pj lw) 20 12 L S k n H Q else W (pj lw) 20 4 L S k n H Q) := W_if_lt (rfl : (pj lw).1 20 1 = some (.ifCond .lt 11, 3, 0)) rfl
theorem w20_4 {x : Int32} {l0 : Slot} : W (pj lw) 20 4 (l0 :: .val (.int x) :: L) S k n H Q ↔ W (pj lw) 20 5 (l0 :: .val (.int x) :: L) (.int x :: S) k n H Q := W_s (rfl : (pj lw).1 20 4 = some (.iload_n 1, 1, 0)) rfl rfl rfl
theorem w20_5 {x : Nat} : W (pj lw) 20 5 (.val (.ref x) :: L) S k n H Q ↔ W (pj lw) 20 6 (.val (.ref x) :: L) (.ref x :: S) k n H Q := W_s (rfl : (pj lw).1 20 5 = some (.aload_n 0, 1, 0)) rfl rfl rfl
theorem w20_6 {a : Nat} : W (pj lw) 20 6 L (.ref a :: S) k n H Q ↔ (isO H a = true ∧ W (pj lw) 20 9 L (fld H a 1 :: S) k n H Q) := W_getf (rfl : (pj lw).1 20 6 = some (.getfield 57, 3, 1))
theorem w20_9 {x y : Int32} : W (pj lw) 20 9 L (.int y :: .int x :: S) k n H Q ↔ (if x < y then W (pj lw) 20 14 L S k n H Q else W (pj lw) 20 12 L S k n H Q) := W_icmp_lt (rfl : (pj lw).1 20 9 = some (.if_icmp .lt 5, 3, 0)) rfl
theorem w20_12 : W (pj lw) 20 12 L S k n H Q ↔ W (pj lw) 20 13 L (.int 0 :: S) k n H Q := W_s (rfl : (pj lw).1 20 12 = some (.iconst 0, 1, 0)) rfl rfl rfl
theorem w20_13 {x : Int32} : W (pj lw) 20 13 L (.int x :: S) k n H Q ↔ ((x = 0 ∨ x = 1) ∧ Q (some (.int x)) H) := W_rz (rfl : (pj lw).1 20 13 = some (.ireturn, 1, 0)) rfl
theorem w20_14 {x : Nat} : W (pj lw) 20 14 (.val (.ref x) :: L) S k n H Q ↔ W (pj lw) 20 15 (.val (.ref x) :: L) (.ref x :: S) k n H Q := W_s (rfl : (pj lw).1 20 14 = some (.aload_n 0, 1, 0)) rfl rfl rfl
theorem w20_15 {x : Int32} {l0 : Slot} : W (pj lw) 20 15 (l0 :: .val (.int x) :: L) S k n H Q ↔ W (pj lw) 20 16 (l0 :: .val (.int x) :: L) (.int x :: S) k n H Q := W_s (rfl : (pj lw).1 20 15 = some (.iload_n 1, 1, 0)) rfl rfl rfl
theorem w20_16 {x : Int32} {l0 l1 : Slot} : W (pj lw) 20 16 (l0 :: l1 :: .val (.int x) :: L) S k n H Q ↔ W (pj lw) 20 17 (l0 :: l1 :: .val (.int x) :: L) (.int x :: S) k n H Q := W_s (rfl : (pj lw).1 20 16 = some (.iload_n 2, 1, 0)) rfl rfl rfl
theorem w20_17 {a : Nat} {x0 : Int32} {x1 : Int32} : W (pj lw) 20 17 L (.int x1 :: .int x0 :: .ref a :: S) k n H Q ↔ ((isO H a = true ∧ cs S + (4 + 11) + 13 ≤ 28) ∧ Cl (pj lw) 19 [.ref a, .int x0, .int x1] H (fun v H => W (pj lw) 20 20 L (v.toList ++ S) k n H Q)) := W_inst (as := [.int x0, .int x1]) (rfl : (pj lw).1 20 17 = some (.invokevirtual 79, 3, 19)) rfl rfl rfl (Nat.le_of_ble_eq_true rfl) (Nat.le_of_ble_eq_true rfl) ⟨rfl, rfl⟩
theorem w20_20 {x : Int32} : W (pj lw) 20 20 L (.int x :: S) k n H Q ↔ (if x = 0 then W (pj lw) 20 23 L S k n H Q else W (pj lw) 20 25 L S k n H Q) := W_if_ne (rfl : (pj lw).1 20 20 = some (.ifCond .ne 5, 3, 0)) rfl
theorem w20_23 : W (pj lw) 20 23 L S k n H Q ↔ W (pj lw) 20 24 L (.int 0 :: S) k n H Q := W_s (rfl : (pj lw).1 20 23 = some (.iconst 0, 1, 0)) rfl rfl rfl
theorem w20_24 {x : Int32} : W (pj lw) 20 24 L (.int x :: S) k n H Q ↔ ((x = 0 ∨ x = 1) ∧ Q (some (.int x)) H) := W_rz (rfl : (pj lw).1 20 24 = some (.ireturn, 1, 0)) rfl
theorem w20_25 {x : Nat} : W (pj lw) 20 25 (.val (.ref x) :: L) S k n H Q ↔ W (pj lw) 20 26 (.val (.ref x) :: L) (.ref x :: S) k n H Q := W_s (rfl : (pj lw).1 20 25 = some (.aload_n 0, 1, 0)) rfl rfl rfl
theorem w20_26 {a : Nat} : W (pj lw) 20 26 L (.ref a :: S) k n H Q ↔ (isO H a = true ∧ W (pj lw) 20 29 L (fld H a 18 :: S) k n H Q) := W_getf (rfl : (pj lw).1 20 26 = some (.getfield 46, 3, 18))
theorem w20_29 {x : Nat} : W (pj lw) 20 29 (.val (.ref x) :: L) S k n H Q ↔ W (pj lw) 20 30 (.val (.ref x) :: L) (.ref x :: S) k n H Q := W_s (rfl : (pj lw).1 20 29 = some (.aload_n 0, 1, 0)) rfl rfl rfl
theorem w20_30 {x : Int32} {l0 : Slot} : W (pj lw) 20 30 (l0 :: .val (.int x) :: L) S k n H Q ↔ W (pj lw) 20 31 (l0 :: .val (.int x) :: L) (.int x :: S) k n H Q := W_s (rfl : (pj lw).1 20 30 = some (.iload_n 1, 1, 0)) rfl rfl rfl
theorem w20_31 {x : Int32} {l0 l1 : Slot} : W (pj lw) 20 31 (l0 :: l1 :: .val (.int x) :: L) S k n H Q ↔ W (pj lw) 20 32 (l0 :: l1 :: .val (.int x) :: L) (.int x :: S) k n H Q := W_s (rfl : (pj lw).1 20 31 = some (.iload_n 2, 1, 0)) rfl rfl rfl
theorem w20_32 {a : Nat} {x0 : Int32} {x1 : Int32} : W (pj lw) 20 32 L (.int x1 :: .int x0 :: .ref a :: S) k n H Q ↔ ((isO H a = true ∧ cs S + (3 + 11) + 0 ≤ 28) ∧ Cl (pj lw) 18 [.ref a, .int x0, .int x1] H (fun v H => W (pj lw) 20 35 L (v.toList ++ S) k n H Q)) := W_inst (as := [.int x0, .int x1]) (rfl : (pj lw).1 20 32 = some (.invokevirtual 83, 3, 18)) rfl rfl rfl (Nat.le_of_ble_eq_true rfl) (Nat.le_of_ble_eq_true rfl) ⟨rfl, rfl⟩
theorem w20_35 {i : Int32} {a : Nat} : W (pj lw) 20 35 L (.int i :: .ref a :: S) k n H Q ↔ (inA H a .int i = true ∧ W (pj lw) 20 36 L (elt H a i :: S) k n H Q) := W_iaload (rfl : (pj lw).1 20 35 = some (.iaload, 1, 0))
theorem w20_36 {x : Int32} {l0 l1 l2 : Slot} : W (pj lw) 20 36 (l0 :: l1 :: l2 :: .val (.int x) :: L) S k n H Q ↔ W (pj lw) 20 37 (l0 :: l1 :: l2 :: .val (.int x) :: L) (.int x :: S) k n H Q := W_s (rfl : (pj lw).1 20 36 = some (.iload_n 3, 1, 0)) rfl rfl rfl
theorem w20_37 {x y : Int32} : W (pj lw) 20 37 L (.int y :: .int x :: S) k n H Q ↔ (if x = y then W (pj lw) 20 40 L S k n H Q else W (pj lw) 20 44 L S k n H Q) := W_icmp_ne (rfl : (pj lw).1 20 37 = some (.if_icmp .ne 7, 3, 0)) rfl
theorem w20_40 : W (pj lw) 20 40 L S k n H Q ↔ W (pj lw) 20 41 L (.int 1 :: S) k n H Q := W_s (rfl : (pj lw).1 20 40 = some (.iconst 1, 1, 0)) rfl rfl rfl
theorem w20_41 : W (pj lw) 20 41 L S k n H Q ↔ W (pj lw) 20 45 L S k n H Q := W_goto (rfl : (pj lw).1 20 41 = some (.goto 4, 3, 0)) rfl
theorem w20_44 : W (pj lw) 20 44 L S k n H Q ↔ W (pj lw) 20 45 L (.int 0 :: S) k n H Q := W_s (rfl : (pj lw).1 20 44 = some (.iconst 0, 1, 0)) rfl rfl rfl
theorem w20_45 {x : Int32} : W (pj lw) 20 45 L (.int x :: S) k n H Q ↔ ((x = 0 ∨ x = 1) ∧ Q (some (.int x)) H) := W_rz (rfl : (pj lw).1 20 45 = some (.ireturn, 1, 0)) rfl
theorem c21 {x0 : Nat} {x1 : Int32} {x2 : Int32} : Cl (pj lw) 21 [.ref x0, .int x1, .int x2] H Q ↔ W (pj lw) 21 0 [.val (.ref x0), .val (.int x1), .val (.int x2), .unset] [] 0 0 H Q := cl_unf rfl
theorem w21_0 : W (pj lw) 21 0 L S k n H Q ↔ W (pj lw) 21 1 L (.int 0 :: S) k n H Q := W_s (rfl : (pj lw).1 21 0 = some (.iconst 0, 1, 0)) rfl rfl rfl
theorem w21_1 {x : Int32} {l0 l1 l2 : Slot} : W (pj lw) 21 1 (l0 :: l1 :: l2 :: .unset :: L) (.int x :: S) k n H Q ↔ W (pj lw) 21 2 (l0 :: l1 :: l2 :: .val (.int x) :: L) S k n H Q := W_istn (rfl : (pj lw).1 21 1 = some (.istore_n 3, 1, 0)) rfl rfl
theorem w21_2 {x : Int32} {l0 l1 l2 : Slot} : W (pj lw) 21 2 (l0 :: l1 :: l2 :: .val (.int x) :: L) S k n H Q ↔ W (pj lw) 21 3 (l0 :: l1 :: l2 :: .val (.int x) :: L) (.int x :: S) k n H Q := W_s (rfl : (pj lw).1 21 2 = some (.iload_n 3, 1, 0)) rfl rfl rfl
theorem w21_3 {x : Nat} : W (pj lw) 21 3 (.val (.ref x) :: L) S k n H Q ↔ W (pj lw) 21 4 (.val (.ref x) :: L) (.ref x :: S) k n H Q := W_s (rfl : (pj lw).1 21 3 = some (.aload_n 0, 1, 0)) rfl rfl rfl
theorem w21_4 {a : Nat} : W (pj lw) 21 4 L (.ref a :: S) k n H Q ↔ (isO H a = true ∧ W (pj lw) 21 7 L (fld H a 4 :: S) k n H Q) := W_getf (rfl : (pj lw).1 21 4 = some (.getfield 63, 3, 4))
theorem w21_7 {x y : Int32} : W (pj lw) 21 7 L (.int y :: .int x :: S) k n H Q ↔ (if x < y then W (pj lw) 21 10 L S k n H Q else W (pj lw) 21 48 L S k n H Q) := W_icmp_ge (rfl : (pj lw).1 21 7 = some (.if_icmp .ge 41, 3, 0)) rfl
theorem w21_10 {x : Nat} : W (pj lw) 21 10 (.val (.ref x) :: L) S k n H Q ↔ W (pj lw) 21 11 (.val (.ref x) :: L) (.ref x :: S) k n H Q := W_s (rfl : (pj lw).1 21 10 = some (.aload_n 0, 1, 0)) rfl rfl rfl
theorem w21_11 {a : Nat} : W (pj lw) 21 11 L (.ref a :: S) k n H Q ↔ (isO H a = true ∧ W (pj lw) 21 14 L (fld H a 11 :: S) k n H Q) := W_getf (rfl : (pj lw).1 21 11 = some (.getfield 25, 3, 11))
theorem w21_14 {x : Int32} {l0 l1 l2 : Slot} : W (pj lw) 21 14 (l0 :: l1 :: l2 :: .val (.int x) :: L) S k n H Q ↔ W (pj lw) 21 15 (l0 :: l1 :: l2 :: .val (.int x) :: L) (.int x :: S) k n H Q := W_s (rfl : (pj lw).1 21 14 = some (.iload_n 3, 1, 0)) rfl rfl rfl
theorem w21_15 {i : Int32} {a : Nat} : W (pj lw) 21 15 L (.int i :: .ref a :: S) k n H Q ↔ (inA H a .int i = true ∧ W (pj lw) 21 16 L (elt H a i :: S) k n H Q) := W_iaload (rfl : (pj lw).1 21 15 = some (.iaload, 1, 0))
theorem w21_16 : W (pj lw) 21 16 L S k n H Q ↔ W (pj lw) 21 17 L (.int 2 :: S) k n H Q := W_s (rfl : (pj lw).1 21 16 = some (.iconst 2, 1, 0)) rfl rfl rfl
theorem w21_17 {x y : Int32} : W (pj lw) 21 17 L (.int y :: .int x :: S) k n H Q ↔ (if x = y then W (pj lw) 21 20 L S k n H Q else W (pj lw) 21 42 L S k n H Q) := W_icmp_ne (rfl : (pj lw).1 21 17 = some (.if_icmp .ne 25, 3, 0)) rfl
theorem w21_20 {x : Nat} : W (pj lw) 21 20 (.val (.ref x) :: L) S k n H Q ↔ W (pj lw) 21 21 (.val (.ref x) :: L) (.ref x :: S) k n H Q := W_s (rfl : (pj lw).1 21 20 = some (.aload_n 0, 1, 0)) rfl rfl rfl
theorem w21_21 {a : Nat} : W (pj lw) 21 21 L (.ref a :: S) k n H Q ↔ (isO H a = true ∧ W (pj lw) 21 24 L (fld H a 17 :: S) k n H Q) := W_getf (rfl : (pj lw).1 21 21 = some (.getfield 43, 3, 17))
theorem w21_24 {x : Int32} {l0 l1 l2 : Slot} : W (pj lw) 21 24 (l0 :: l1 :: l2 :: .val (.int x) :: L) S k n H Q ↔ W (pj lw) 21 25 (l0 :: l1 :: l2 :: .val (.int x) :: L) (.int x :: S) k n H Q := W_s (rfl : (pj lw).1 21 24 = some (.iload_n 3, 1, 0)) rfl rfl rfl
theorem w21_25 {i : Int32} {a : Nat} : W (pj lw) 21 25 L (.int i :: .ref a :: S) k n H Q ↔ (inA H a .int i = true ∧ W (pj lw) 21 26 L (elt H a i :: S) k n H Q) := W_iaload (rfl : (pj lw).1 21 25 = some (.iaload, 1, 0))
theorem w21_26 {x : Int32} {l0 : Slot} : W (pj lw) 21 26 (l0 :: .val (.int x) :: L) S k n H Q ↔ W (pj lw) 21 27 (l0 :: .val (.int x) :: L) (.int x :: S) k n H Q := W_s (rfl : (pj lw).1 21 26 = some (.iload_n 1, 1, 0)) rfl rfl rfl
theorem w21_27 {x y : Int32} : W (pj lw) 21 27 L (.int y :: .int x :: S) k n H Q ↔ (if x = y then W (pj lw) 21 30 L S k n H Q else W (pj lw) 21 42 L S k n H Q) := W_icmp_ne (rfl : (pj lw).1 21 27 = some (.if_icmp .ne 15, 3, 0)) rfl
theorem w21_30 {x : Nat} : W (pj lw) 21 30 (.val (.ref x) :: L) S k n H Q ↔ W (pj lw) 21 31 (.val (.ref x) :: L) (.ref x :: S) k n H Q := W_s (rfl : (pj lw).1 21 30 = some (.aload_n 0, 1, 0)) rfl rfl rfl
theorem w21_31 {a : Nat} : W (pj lw) 21 31 L (.ref a :: S) k n H Q ↔ (isO H a = true ∧ W (pj lw) 21 34 L (fld H a 13 :: S) k n H Q) := W_getf (rfl : (pj lw).1 21 31 = some (.getfield 31, 3, 13))
theorem w21_34 {x : Int32} {l0 l1 l2 : Slot} : W (pj lw) 21 34 (l0 :: l1 :: l2 :: .val (.int x) :: L) S k n H Q ↔ W (pj lw) 21 35 (l0 :: l1 :: l2 :: .val (.int x) :: L) (.int x :: S) k n H Q := W_s (rfl : (pj lw).1 21 34 = some (.iload_n 3, 1, 0)) rfl rfl rfl
theorem w21_35 {i : Int32} {a : Nat} : W (pj lw) 21 35 L (.int i :: .ref a :: S) k n H Q ↔ (inA H a .int i = true ∧ W (pj lw) 21 36 L (elt H a i :: S) k n H Q) := W_iaload (rfl : (pj lw).1 21 35 = some (.iaload, 1, 0))
theorem w21_36 {x : Int32} {l0 l1 : Slot} : W (pj lw) 21 36 (l0 :: l1 :: .val (.int x) :: L) S k n H Q ↔ W (pj lw) 21 37 (l0 :: l1 :: .val (.int x) :: L) (.int x :: S) k n H Q := W_s (rfl : (pj lw).1 21 36 = some (.iload_n 2, 1, 0)) rfl rfl rfl
theorem w21_37 {x y : Int32} : W (pj lw) 21 37 L (.int y :: .int x :: S) k n H Q ↔ (if x = y then W (pj lw) 21 40 L S k n H Q else W (pj lw) 21 42 L S k n H Q) := W_icmp_ne (rfl : (pj lw).1 21 37 = some (.if_icmp .ne 5, 3, 0)) rfl
theorem w21_40 : W (pj lw) 21 40 L S k n H Q ↔ W (pj lw) 21 41 L (.int 1 :: S) k n H Q := W_s (rfl : (pj lw).1 21 40 = some (.iconst 1, 1, 0)) rfl rfl rfl
theorem w21_41 {x : Int32} : W (pj lw) 21 41 L (.int x :: S) k n H Q ↔ ((x = 0 ∨ x = 1) ∧ Q (some (.int x)) H) := W_rz (rfl : (pj lw).1 21 41 = some (.ireturn, 1, 0)) rfl
theorem w21_42 {x : Int32} {l0 l1 l2 : Slot} : W (pj lw) 21 42 (l0 :: l1 :: l2 :: .val (.int x) :: L) S k n H Q ↔ W (pj lw) 21 45 (l0 :: l1 :: l2 :: .val (.int (x + 1)) :: L) S k n H Q := W_s (rfl : (pj lw).1 21 42 = some (.iinc 3 1, 3, 0)) rfl rfl rfl
theorem w21_45 : W (pj lw) 21 45 L S k n H Q ↔ W (pj lw) 21 2 L S k n H Q := W_goto (rfl : (pj lw).1 21 45 = some (.goto (-43), 3, 0)) rfl
theorem w21_48 : W (pj lw) 21 48 L S k n H Q ↔ W (pj lw) 21 49 L (.int 0 :: S) k n H Q := W_s (rfl : (pj lw).1 21 48 = some (.iconst 0, 1, 0)) rfl rfl rfl
theorem w21_49 {x : Int32} : W (pj lw) 21 49 L (.int x :: S) k n H Q ↔ ((x = 0 ∨ x = 1) ∧ Q (some (.int x)) H) := W_rz (rfl : (pj lw).1 21 49 = some (.ireturn, 1, 0)) rfl
theorem c22 {x0 : Nat} {x1 : Int32} {x2 : Int32} : Cl (pj lw) 22 [.ref x0, .int x1, .int x2] H Q ↔ W (pj lw) 22 0 [.val (.ref x0), .val (.int x1), .val (.int x2)] [] 0 0 H Q := cl_unf rfl
theorem w22_0 {x : Nat} : W (pj lw) 22 0 (.val (.ref x) :: L) S k n H Q ↔ W (pj lw) 22 1 (.val (.ref x) :: L) (.ref x :: S) k n H Q := W_s (rfl : (pj lw).1 22 0 = some (.aload_n 0, 1, 0)) rfl rfl rfl
theorem w22_1 {x : Int32} {l0 : Slot} : W (pj lw) 22 1 (l0 :: .val (.int x) :: L) S k n H Q ↔ W (pj lw) 22 2 (l0 :: .val (.int x) :: L) (.int x :: S) k n H Q := W_s (rfl : (pj lw).1 22 1 = some (.iload_n 1, 1, 0)) rfl rfl rfl
theorem w22_2 {x : Int32} {l0 l1 : Slot} : W (pj lw) 22 2 (l0 :: l1 :: .val (.int x) :: L) S k n H Q ↔ W (pj lw) 22 3 (l0 :: l1 :: .val (.int x) :: L) (.int x :: S) k n H Q := W_s (rfl : (pj lw).1 22 2 = some (.iload_n 2, 1, 0)) rfl rfl rfl
theorem w22_3 {a : Nat} {x0 : Int32} {x1 : Int32} : W (pj lw) 22 3 L (.int x1 :: .int x0 :: .ref a :: S) k n H Q ↔ ((isO H a = true ∧ cs S + (4 + 11) + 0 ≤ 43) ∧ Cl (pj lw) 21 [.ref a, .int x0, .int x1] H (fun v H => W (pj lw) 22 6 L (v.toList ++ S) k n H Q)) := W_inst (as := [.int x0, .int x1]) (rfl : (pj lw).1 22 3 = some (.invokevirtual 94, 3, 21)) rfl rfl rfl (Nat.le_of_ble_eq_true rfl) (Nat.le_of_ble_eq_true rfl) ⟨rfl, rfl⟩
theorem w22_6 {x : Int32} : W (pj lw) 22 6 L (.int x :: S) k n H Q ↔ (if x = 0 then W (pj lw) 22 9 L S k n H Q else W (pj lw) 22 29 L S k n H Q) := W_if_ne (rfl : (pj lw).1 22 6 = some (.ifCond .ne 23, 3, 0)) rfl
theorem w22_9 {x : Nat} : W (pj lw) 22 9 (.val (.ref x) :: L) S k n H Q ↔ W (pj lw) 22 10 (.val (.ref x) :: L) (.ref x :: S) k n H Q := W_s (rfl : (pj lw).1 22 9 = some (.aload_n 0, 1, 0)) rfl rfl rfl
theorem w22_10 {x : Int32} {l0 l1 : Slot} : W (pj lw) 22 10 (l0 :: l1 :: .val (.int x) :: L) S k n H Q ↔ W (pj lw) 22 11 (l0 :: l1 :: .val (.int x) :: L) (.int x :: S) k n H Q := W_s (rfl : (pj lw).1 22 10 = some (.iload_n 2, 1, 0)) rfl rfl rfl
theorem w22_11 : W (pj lw) 22 11 L S k n H Q ↔ W (pj lw) 22 12 L (.int 1 :: S) k n H Q := W_s (rfl : (pj lw).1 22 11 = some (.iconst 1, 1, 0)) rfl rfl rfl
theorem w22_12 {x : Int32} {l0 : Slot} : W (pj lw) 22 12 (l0 :: .val (.int x) :: L) S k n H Q ↔ W (pj lw) 22 13 (l0 :: .val (.int x) :: L) (.int x :: S) k n H Q := W_s (rfl : (pj lw).1 22 12 = some (.iload_n 1, 1, 0)) rfl rfl rfl
theorem w22_13 {a : Nat} {x0 : Int32} {x1 : Int32} {x2 : Int32} : W (pj lw) 22 13 L (.int x2 :: .int x1 :: .int x0 :: .ref a :: S) k n H Q ↔ ((isO H a = true ∧ cs S + (4 + 11) + 28 ≤ 43) ∧ Cl (pj lw) 20 [.ref a, .int x0, .int x1, .int x2] H (fun v H => W (pj lw) 22 16 L (v.toList ++ S) k n H Q)) := W_inst (as := [.int x0, .int x1, .int x2]) (rfl : (pj lw).1 22 13 = some (.invokevirtual 97, 3, 20)) rfl rfl rfl (Nat.le_of_ble_eq_true rfl) (Nat.le_of_ble_eq_true rfl) ⟨rfl, rfl⟩
theorem w22_16 {x : Int32} : W (pj lw) 22 16 L (.int x :: S) k n H Q ↔ (if x = 0 then W (pj lw) 22 19 L S k n H Q else W (pj lw) 22 29 L S k n H Q) := W_if_ne (rfl : (pj lw).1 22 16 = some (.ifCond .ne 13, 3, 0)) rfl
theorem w22_19 {x : Nat} : W (pj lw) 22 19 (.val (.ref x) :: L) S k n H Q ↔ W (pj lw) 22 20 (.val (.ref x) :: L) (.ref x :: S) k n H Q := W_s (rfl : (pj lw).1 22 19 = some (.aload_n 0, 1, 0)) rfl rfl rfl
theorem w22_20 {x : Int32} {l0 l1 : Slot} : W (pj lw) 22 20 (l0 :: l1 :: .val (.int x) :: L) S k n H Q ↔ W (pj lw) 22 21 (l0 :: l1 :: .val (.int x) :: L) (.int x :: S) k n H Q := W_s (rfl : (pj lw).1 22 20 = some (.iload_n 2, 1, 0)) rfl rfl rfl
theorem w22_21 : W (pj lw) 22 21 L S k n H Q ↔ W (pj lw) 22 22 L (.int (-1) :: S) k n H Q := W_s (rfl : (pj lw).1 22 21 = some (.iconst (-1), 1, 0)) rfl rfl rfl
theorem w22_22 {x : Int32} {l0 : Slot} : W (pj lw) 22 22 (l0 :: .val (.int x) :: L) S k n H Q ↔ W (pj lw) 22 23 (l0 :: .val (.int x) :: L) (.int x :: S) k n H Q := W_s (rfl : (pj lw).1 22 22 = some (.iload_n 1, 1, 0)) rfl rfl rfl
theorem w22_23 {a : Nat} {x0 : Int32} {x1 : Int32} {x2 : Int32} : W (pj lw) 22 23 L (.int x2 :: .int x1 :: .int x0 :: .ref a :: S) k n H Q ↔ ((isO H a = true ∧ cs S + (4 + 11) + 28 ≤ 43) ∧ Cl (pj lw) 20 [.ref a, .int x0, .int x1, .int x2] H (fun v H => W (pj lw) 22 26 L (v.toList ++ S) k n H Q)) := W_inst (as := [.int x0, .int x1, .int x2]) (rfl : (pj lw).1 22 23 = some (.invokevirtual 97, 3, 20)) rfl rfl rfl (Nat.le_of_ble_eq_true rfl) (Nat.le_of_ble_eq_true rfl) ⟨rfl, rfl⟩
theorem w22_26 {x : Int32} : W (pj lw) 22 26 L (.int x :: S) k n H Q ↔ (if x = 0 then W (pj lw) 22 33 L S k n H Q else W (pj lw) 22 29 L S k n H Q) := W_if_eq (rfl : (pj lw).1 22 26 = some (.ifCond .eq 7, 3, 0)) rfl
theorem w22_29 : W (pj lw) 22 29 L S k n H Q ↔ W (pj lw) 22 30 L (.int 1 :: S) k n H Q := W_s (rfl : (pj lw).1 22 29 = some (.iconst 1, 1, 0)) rfl rfl rfl
theorem w22_30 : W (pj lw) 22 30 L S k n H Q ↔ W (pj lw) 22 34 L S k n H Q := W_goto (rfl : (pj lw).1 22 30 = some (.goto 4, 3, 0)) rfl
theorem w22_33 : W (pj lw) 22 33 L S k n H Q ↔ W (pj lw) 22 34 L (.int 0 :: S) k n H Q := W_s (rfl : (pj lw).1 22 33 = some (.iconst 0, 1, 0)) rfl rfl rfl
theorem w22_34 {x : Int32} : W (pj lw) 22 34 L (.int x :: S) k n H Q ↔ ((x = 0 ∨ x = 1) ∧ Q (some (.int x)) H) := W_rz (rfl : (pj lw).1 22 34 = some (.ireturn, 1, 0)) rfl
theorem c23 {x0 : Nat} {x1 : Int32} {x2 : Int32} : Cl (pj lw) 23 [.ref x0, .int x1, .int x2] H Q ↔ W (pj lw) 23 0 [.val (.ref x0), .val (.int x1), .val (.int x2), .unset, .unset, .unset] [] 0 0 H Q := cl_unf rfl
theorem w23_0 {x : Nat} : W (pj lw) 23 0 (.val (.ref x) :: L) S k n H Q ↔ W (pj lw) 23 1 (.val (.ref x) :: L) (.ref x :: S) k n H Q := W_s (rfl : (pj lw).1 23 0 = some (.aload_n 0, 1, 0)) rfl rfl rfl
theorem w23_1 {a : Nat} : W (pj lw) 23 1 L (.ref a :: S) k n H Q ↔ (isO H a = true ∧ W (pj lw) 23 4 L (fld H a 6 :: S) k n H Q) := W_getf (rfl : (pj lw).1 23 1 = some (.getfield 7, 3, 6))
theorem w23_4 {x : Int32} {l0 : Slot} : W (pj lw) 23 4 (l0 :: .val (.int x) :: L) S k n H Q ↔ W (pj lw) 23 5 (l0 :: .val (.int x) :: L) (.int x :: S) k n H Q := W_s (rfl : (pj lw).1 23 4 = some (.iload_n 1, 1, 0)) rfl rfl rfl
theorem w23_5 {i : Int32} {a : Nat} : W (pj lw) 23 5 L (.int i :: .ref a :: S) k n H Q ↔ (inA H a .int i = true ∧ W (pj lw) 23 6 L (elt H a i :: S) k n H Q) := W_iaload (rfl : (pj lw).1 23 5 = some (.iaload, 1, 0))
theorem w23_6 {x : Int32} {l0 l1 l2 : Slot} : W (pj lw) 23 6 (l0 :: l1 :: l2 :: .unset :: L) (.int x :: S) k n H Q ↔ W (pj lw) 23 7 (l0 :: l1 :: l2 :: .val (.int x) :: L) S k n H Q := W_istn (rfl : (pj lw).1 23 6 = some (.istore_n 3, 1, 0)) rfl rfl
theorem w23_7 : W (pj lw) 23 7 L S k n H Q ↔ W (pj lw) 23 8 L (.int 0 :: S) k n H Q := W_s (rfl : (pj lw).1 23 7 = some (.iconst 0, 1, 0)) rfl rfl rfl
theorem w23_8 {x : Int32} {l0 l1 l2 l3 : Slot} : W (pj lw) 23 8 (l0 :: l1 :: l2 :: l3 :: .unset :: L) (.int x :: S) k n H Q ↔ W (pj lw) 23 10 (l0 :: l1 :: l2 :: l3 :: .val (.int x) :: L) S k n H Q := W_ist (rfl : (pj lw).1 23 8 = some (.istore 4, 2, 0)) rfl rfl
theorem w23_10 {x : Int32} {l0 l1 l2 l3 : Slot} : W (pj lw) 23 10 (l0 :: l1 :: l2 :: l3 :: .val (.int x) :: L) S k n H Q ↔ W (pj lw) 23 12 (l0 :: l1 :: l2 :: l3 :: .val (.int x) :: L) (.int x :: S) k n H Q := W_s (rfl : (pj lw).1 23 10 = some (.iload 4, 2, 0)) rfl rfl rfl
theorem w23_12 {x : Nat} : W (pj lw) 23 12 (.val (.ref x) :: L) S k n H Q ↔ W (pj lw) 23 13 (.val (.ref x) :: L) (.ref x :: S) k n H Q := W_s (rfl : (pj lw).1 23 12 = some (.aload_n 0, 1, 0)) rfl rfl rfl
theorem w23_13 {a : Nat} : W (pj lw) 23 13 L (.ref a :: S) k n H Q ↔ (isO H a = true ∧ W (pj lw) 23 16 L (fld H a 1 :: S) k n H Q) := W_getf (rfl : (pj lw).1 23 13 = some (.getfield 57, 3, 1))
theorem w23_16 {x y : Int32} : W (pj lw) 23 16 L (.int y :: .int x :: S) k n H Q ↔ (if x < y then W (pj lw) 23 19 L S k n H Q else W (pj lw) 23 71 L S k n H Q) := W_icmp_ge (rfl : (pj lw).1 23 16 = some (.if_icmp .ge 55, 3, 0)) rfl
theorem w23_19 {x : Int32} {l0 l1 : Slot} : W (pj lw) 23 19 (l0 :: l1 :: .val (.int x) :: L) S k n H Q ↔ W (pj lw) 23 20 (l0 :: l1 :: .val (.int x) :: L) (.int x :: S) k n H Q := W_s (rfl : (pj lw).1 23 19 = some (.iload_n 2, 1, 0)) rfl rfl rfl
theorem w23_20 : W (pj lw) 23 20 L S k n H Q ↔ W (pj lw) 23 21 L (.int 1 :: S) k n H Q := W_s (rfl : (pj lw).1 23 20 = some (.iconst 1, 1, 0)) rfl rfl rfl
theorem w23_21 {x y : Int32} : W (pj lw) 23 21 L (.int y :: .int x :: S) k n H Q ↔ (if x = y then W (pj lw) 23 24 L S k n H Q else W (pj lw) 23 30 L S k n H Q) := W_icmp_ne (rfl : (pj lw).1 23 21 = some (.if_icmp .ne 9, 3, 0)) rfl
theorem w23_24 {x : Int32} {l0 l1 l2 l3 : Slot} : W (pj lw) 23 24 (l0 :: l1 :: l2 :: l3 :: .val (.int x) :: L) S k n H Q ↔ W (pj lw) 23 26 (l0 :: l1 :: l2 :: l3 :: .val (.int x) :: L) (.int x :: S) k n H Q := W_s (rfl : (pj lw).1 23 24 = some (.iload 4, 2, 0)) rfl rfl rfl
theorem w23_26 {x : Int32} {l0 l1 l2 : Slot} : W (pj lw) 23 26 (l0 :: l1 :: l2 :: .val (.int x) :: L) S k n H Q ↔ W (pj lw) 23 27 (l0 :: l1 :: l2 :: .val (.int x) :: L) (.int x :: S) k n H Q := W_s (rfl : (pj lw).1 23 26 = some (.iload_n 3, 1, 0)) rfl rfl rfl
theorem w23_27 {x y : Int32} : W (pj lw) 23 27 L (.int y :: .int x :: S) k n H Q ↔ (if y < x then W (pj lw) 23 41 L S k n H Q else W (pj lw) 23 30 L S k n H Q) := W_icmp_gt (rfl : (pj lw).1 23 27 = some (.if_icmp .gt 14, 3, 0)) rfl
theorem w23_30 {x : Int32} {l0 l1 : Slot} : W (pj lw) 23 30 (l0 :: l1 :: .val (.int x) :: L) S k n H Q ↔ W (pj lw) 23 31 (l0 :: l1 :: .val (.int x) :: L) (.int x :: S) k n H Q := W_s (rfl : (pj lw).1 23 30 = some (.iload_n 2, 1, 0)) rfl rfl rfl
theorem w23_31 : W (pj lw) 23 31 L S k n H Q ↔ W (pj lw) 23 32 L (.int (-1) :: S) k n H Q := W_s (rfl : (pj lw).1 23 31 = some (.iconst (-1), 1, 0)) rfl rfl rfl
theorem w23_32 {x y : Int32} : W (pj lw) 23 32 L (.int y :: .int x :: S) k n H Q ↔ (if x = y then W (pj lw) 23 35 L S k n H Q else W (pj lw) 23 45 L S k n H Q) := W_icmp_ne (rfl : (pj lw).1 23 32 = some (.if_icmp .ne 13, 3, 0)) rfl
theorem w23_35 {x : Int32} {l0 l1 l2 l3 : Slot} : W (pj lw) 23 35 (l0 :: l1 :: l2 :: l3 :: .val (.int x) :: L) S k n H Q ↔ W (pj lw) 23 37 (l0 :: l1 :: l2 :: l3 :: .val (.int x) :: L) (.int x :: S) k n H Q := W_s (rfl : (pj lw).1 23 35 = some (.iload 4, 2, 0)) rfl rfl rfl
theorem w23_37 {x : Int32} {l0 l1 l2 : Slot} : W (pj lw) 23 37 (l0 :: l1 :: l2 :: .val (.int x) :: L) S k n H Q ↔ W (pj lw) 23 38 (l0 :: l1 :: l2 :: .val (.int x) :: L) (.int x :: S) k n H Q := W_s (rfl : (pj lw).1 23 37 = some (.iload_n 3, 1, 0)) rfl rfl rfl
theorem w23_38 {x y : Int32} : W (pj lw) 23 38 L (.int y :: .int x :: S) k n H Q ↔ (if x < y then W (pj lw) 23 41 L S k n H Q else W (pj lw) 23 45 L S k n H Q) := W_icmp_ge (rfl : (pj lw).1 23 38 = some (.if_icmp .ge 7, 3, 0)) rfl
theorem w23_41 : W (pj lw) 23 41 L S k n H Q ↔ W (pj lw) 23 42 L (.int 1 :: S) k n H Q := W_s (rfl : (pj lw).1 23 41 = some (.iconst 1, 1, 0)) rfl rfl rfl
theorem w23_42 : W (pj lw) 23 42 L S k n H Q ↔ W (pj lw) 23 46 L S k n H Q := W_goto (rfl : (pj lw).1 23 42 = some (.goto 4, 3, 0)) rfl
theorem w23_45 : W (pj lw) 23 45 L S k n H Q ↔ W (pj lw) 23 46 L (.int 0 :: S) k n H Q := W_s (rfl : (pj lw).1 23 45 = some (.iconst 0, 1, 0)) rfl rfl rfl
theorem w23_46i {y : Int32} {x : Int32} {l0 l1 l2 l3 l4 : Slot} : W (pj lw) 23 46 (l0 :: l1 :: l2 :: l3 :: l4 :: .val (.int y) :: L) (.int x :: S) k n H Q ↔ W (pj lw) 23 48 (l0 :: l1 :: l2 :: l3 :: l4 :: .val (.int x) :: L) S k n H Q := W_ist (rfl : (pj lw).1 23 46 = some (.istore 5, 2, 0)) rfl rfl
theorem w23_46 {x : Int32} {l0 l1 l2 l3 l4 : Slot} : W (pj lw) 23 46 (l0 :: l1 :: l2 :: l3 :: l4 :: .unset :: L) (.int x :: S) k n H Q ↔ W (pj lw) 23 48 (l0 :: l1 :: l2 :: l3 :: l4 :: .val (.int x) :: L) S k n H Q := W_ist (rfl : (pj lw).1 23 46 = some (.istore 5, 2, 0)) rfl rfl
theorem w23_48 {x : Int32} {l0 l1 l2 l3 l4 : Slot} : W (pj lw) 23 48 (l0 :: l1 :: l2 :: l3 :: l4 :: .val (.int x) :: L) S k n H Q ↔ W (pj lw) 23 50 (l0 :: l1 :: l2 :: l3 :: l4 :: .val (.int x) :: L) (.int x :: S) k n H Q := W_s (rfl : (pj lw).1 23 48 = some (.iload 5, 2, 0)) rfl rfl rfl
theorem w23_50 {x : Int32} : W (pj lw) 23 50 L (.int x :: S) k n H Q ↔ (if x = 0 then W (pj lw) 23 65 L S k n H Q else W (pj lw) 23 53 L S k n H Q) := W_if_eq (rfl : (pj lw).1 23 50 = some (.ifCond .eq 15, 3, 0)) rfl
theorem w23_53 {x : Nat} : W (pj lw) 23 53 (.val (.ref x) :: L) S k n H Q ↔ W (pj lw) 23 54 (.val (.ref x) :: L) (.ref x :: S) k n H Q := W_s (rfl : (pj lw).1 23 53 = some (.aload_n 0, 1, 0)) rfl rfl rfl
theorem w23_54 {x : Int32} {l0 : Slot} : W (pj lw) 23 54 (l0 :: .val (.int x) :: L) S k n H Q ↔ W (pj lw) 23 55 (l0 :: .val (.int x) :: L) (.int x :: S) k n H Q := W_s (rfl : (pj lw).1 23 54 = some (.iload_n 1, 1, 0)) rfl rfl rfl
theorem w23_55 {x : Int32} {l0 l1 l2 l3 : Slot} : W (pj lw) 23 55 (l0 :: l1 :: l2 :: l3 :: .val (.int x) :: L) S k n H Q ↔ W (pj lw) 23 57 (l0 :: l1 :: l2 :: l3 :: .val (.int x) :: L) (.int x :: S) k n H Q := W_s (rfl : (pj lw).1 23 55 = some (.iload 4, 2, 0)) rfl rfl rfl
theorem w23_57 {a : Nat} {x0 : Int32} {x1 : Int32} : W (pj lw) 23 57 L (.int x1 :: .int x0 :: .ref a :: S) k n H Q ↔ ((isO H a = true ∧ cs S + (3 + 11) + 43 ≤ 57) ∧ Cl (pj lw) 22 [.ref a, .int x0, .int x1] H (fun v H => W (pj lw) 23 60 L (v.toList ++ S) k n H Q)) := W_inst (as := [.int x0, .int x1]) (rfl : (pj lw).1 23 57 = some (.invokevirtual 101, 3, 22)) rfl rfl rfl (Nat.le_of_ble_eq_true rfl) (Nat.le_of_ble_eq_true rfl) ⟨rfl, rfl⟩
theorem w23_60 {x : Int32} : W (pj lw) 23 60 L (.int x :: S) k n H Q ↔ (if x = 0 then W (pj lw) 23 65 L S k n H Q else W (pj lw) 23 63 L S k n H Q) := W_if_eq (rfl : (pj lw).1 23 60 = some (.ifCond .eq 5, 3, 0)) rfl
theorem w23_63 : W (pj lw) 23 63 L S k n H Q ↔ W (pj lw) 23 64 L (.int 1 :: S) k n H Q := W_s (rfl : (pj lw).1 23 63 = some (.iconst 1, 1, 0)) rfl rfl rfl
theorem w23_64 {x : Int32} : W (pj lw) 23 64 L (.int x :: S) k n H Q ↔ ((x = 0 ∨ x = 1) ∧ Q (some (.int x)) H) := W_rz (rfl : (pj lw).1 23 64 = some (.ireturn, 1, 0)) rfl
theorem w23_65 {x : Int32} {l0 l1 l2 l3 : Slot} : W (pj lw) 23 65 (l0 :: l1 :: l2 :: l3 :: .val (.int x) :: L) S k n H Q ↔ W (pj lw) 23 68 (l0 :: l1 :: l2 :: l3 :: .val (.int (x + 1)) :: L) S k n H Q := W_s (rfl : (pj lw).1 23 65 = some (.iinc 4 1, 3, 0)) rfl rfl rfl
theorem w23_68 : W (pj lw) 23 68 L S k n H Q ↔ W (pj lw) 23 10 L S k n H Q := W_goto (rfl : (pj lw).1 23 68 = some (.goto (-58), 3, 0)) rfl
theorem w23_71 : W (pj lw) 23 71 L S k n H Q ↔ W (pj lw) 23 72 L (.int 0 :: S) k n H Q := W_s (rfl : (pj lw).1 23 71 = some (.iconst 0, 1, 0)) rfl rfl rfl
theorem w23_72 {x : Int32} : W (pj lw) 23 72 L (.int x :: S) k n H Q ↔ ((x = 0 ∨ x = 1) ∧ Q (some (.int x)) H) := W_rz (rfl : (pj lw).1 23 72 = some (.ireturn, 1, 0)) rfl
theorem c24 {x0 : Nat} {x1 : Int32} : Cl (pj lw) 24 [.ref x0, .int x1] H Q ↔ W (pj lw) 24 0 [.val (.ref x0), .val (.int x1)] [] 0 0 H Q := cl_unf rfl
theorem w24_0 {x : Nat} : W (pj lw) 24 0 (.val (.ref x) :: L) S k n H Q ↔ W (pj lw) 24 1 (.val (.ref x) :: L) (.ref x :: S) k n H Q := W_s (rfl : (pj lw).1 24 0 = some (.aload_n 0, 1, 0)) rfl rfl rfl
theorem w24_1 {a : Nat} : W (pj lw) 24 1 L (.ref a :: S) k n H Q ↔ (isO H a = true ∧ W (pj lw) 24 4 L (fld H a 9 :: S) k n H Q) := W_getf (rfl : (pj lw).1 24 1 = some (.getfield 19, 3, 9))
theorem w24_4 {x : Int32} {l0 : Slot} : W (pj lw) 24 4 (l0 :: .val (.int x) :: L) S k n H Q ↔ W (pj lw) 24 5 (l0 :: .val (.int x) :: L) (.int x :: S) k n H Q := W_s (rfl : (pj lw).1 24 4 = some (.iload_n 1, 1, 0)) rfl rfl rfl
theorem w24_5 {i : Int32} {a : Nat} : W (pj lw) 24 5 L (.int i :: .ref a :: S) k n H Q ↔ (inA H a .int i = true ∧ W (pj lw) 24 6 L (elt H a i :: S) k n H Q) := W_iaload (rfl : (pj lw).1 24 5 = some (.iaload, 1, 0))
theorem w24_6 {x : Nat} : W (pj lw) 24 6 (.val (.ref x) :: L) S k n H Q ↔ W (pj lw) 24 7 (.val (.ref x) :: L) (.ref x :: S) k n H Q := W_s (rfl : (pj lw).1 24 6 = some (.aload_n 0, 1, 0)) rfl rfl rfl
theorem w24_7 {a : Nat} : W (pj lw) 24 7 L (.ref a :: S) k n H Q ↔ (isO H a = true ∧ W (pj lw) 24 10 L (fld H a 2 :: S) k n H Q) := W_getf (rfl : (pj lw).1 24 7 = some (.getfield 60, 3, 2))
theorem w24_10 {x y : Int32} : W (pj lw) 24 10 L (.int y :: .int x :: S) k n H Q ↔ (if x < y then W (pj lw) 24 13 L S k n H Q else W (pj lw) 24 17 L S k n H Q) := W_icmp_ge (rfl : (pj lw).1 24 10 = some (.if_icmp .ge 7, 3, 0)) rfl
theorem w24_13 : W (pj lw) 24 13 L S k n H Q ↔ W (pj lw) 24 14 L (.int 1 :: S) k n H Q := W_s (rfl : (pj lw).1 24 13 = some (.iconst 1, 1, 0)) rfl rfl rfl
theorem w24_14 : W (pj lw) 24 14 L S k n H Q ↔ W (pj lw) 24 18 L S k n H Q := W_goto (rfl : (pj lw).1 24 14 = some (.goto 4, 3, 0)) rfl
theorem w24_17 : W (pj lw) 24 17 L S k n H Q ↔ W (pj lw) 24 18 L (.int 0 :: S) k n H Q := W_s (rfl : (pj lw).1 24 17 = some (.iconst 0, 1, 0)) rfl rfl rfl
theorem w24_18 {x : Int32} : W (pj lw) 24 18 L (.int x :: S) k n H Q ↔ ((x = 0 ∨ x = 1) ∧ Q (some (.int x)) H) := W_rz (rfl : (pj lw).1 24 18 = some (.ireturn, 1, 0)) rfl
theorem c25 {x0 : Nat} {x1 : Int32} : Cl (pj lw) 25 [.ref x0, .int x1] H Q ↔ W (pj lw) 25 0 [.val (.ref x0), .val (.int x1), .unset, .unset] [] 0 0 H Q := cl_unf rfl
theorem w25_0 {x : Nat} : W (pj lw) 25 0 (.val (.ref x) :: L) S k n H Q ↔ W (pj lw) 25 1 (.val (.ref x) :: L) (.ref x :: S) k n H Q := W_s (rfl : (pj lw).1 25 0 = some (.aload_n 0, 1, 0)) rfl rfl rfl
theorem w25_1 {a : Nat} : W (pj lw) 25 1 L (.ref a :: S) k n H Q ↔ (isO H a = true ∧ W (pj lw) 25 4 L (fld H a 8 :: S) k n H Q) := W_getf (rfl : (pj lw).1 25 1 = some (.getfield 16, 3, 8))
theorem w25_4 {x : Int32} {l0 : Slot} : W (pj lw) 25 4 (l0 :: .val (.int x) :: L) S k n H Q ↔ W (pj lw) 25 5 (l0 :: .val (.int x) :: L) (.int x :: S) k n H Q := W_s (rfl : (pj lw).1 25 4 = some (.iload_n 1, 1, 0)) rfl rfl rfl
theorem w25_5 {i : Int32} {a : Nat} : W (pj lw) 25 5 L (.int i :: .ref a :: S) k n H Q ↔ (inA H a .int i = true ∧ W (pj lw) 25 6 L (elt H a i :: S) k n H Q) := W_iaload (rfl : (pj lw).1 25 5 = some (.iaload, 1, 0))
theorem w25_6 {x : Int32} : W (pj lw) 25 6 L (.int x :: S) k n H Q ↔ (if x = 0 then W (pj lw) 25 18 L S k n H Q else W (pj lw) 25 9 L S k n H Q) := W_if_eq (rfl : (pj lw).1 25 6 = some (.ifCond .eq 12, 3, 0)) rfl
theorem w25_9 {x : Nat} : W (pj lw) 25 9 (.val (.ref x) :: L) S k n H Q ↔ W (pj lw) 25 10 (.val (.ref x) :: L) (.ref x :: S) k n H Q := W_s (rfl : (pj lw).1 25 9 = some (.aload_n 0, 1, 0)) rfl rfl rfl
theorem w25_10 {a : Nat} : W (pj lw) 25 10 L (.ref a :: S) k n H Q ↔ (isO H a = true ∧ W (pj lw) 25 13 L (fld H a 8 :: S) k n H Q) := W_getf (rfl : (pj lw).1 25 10 = some (.getfield 16, 3, 8))
theorem w25_13 {x : Int32} {l0 : Slot} : W (pj lw) 25 13 (l0 :: .val (.int x) :: L) S k n H Q ↔ W (pj lw) 25 14 (l0 :: .val (.int x) :: L) (.int x :: S) k n H Q := W_s (rfl : (pj lw).1 25 13 = some (.iload_n 1, 1, 0)) rfl rfl rfl
theorem w25_14 {i : Int32} {a : Nat} : W (pj lw) 25 14 L (.int i :: .ref a :: S) k n H Q ↔ (inA H a .int i = true ∧ W (pj lw) 25 15 L (elt H a i :: S) k n H Q) := W_iaload (rfl : (pj lw).1 25 14 = some (.iaload, 1, 0))
theorem w25_15 : W (pj lw) 25 15 L S k n H Q ↔ W (pj lw) 25 19 L S k n H Q := W_goto (rfl : (pj lw).1 25 15 = some (.goto 4, 3, 0)) rfl
theorem w25_18 : W (pj lw) 25 18 L S k n H Q ↔ W (pj lw) 25 19 L (.int 1 :: S) k n H Q := W_s (rfl : (pj lw).1 25 18 = some (.iconst 1, 1, 0)) rfl rfl rfl
theorem w25_19 {x : Int32} {l0 l1 : Slot} : W (pj lw) 25 19 (l0 :: l1 :: .unset :: L) (.int x :: S) k n H Q ↔ W (pj lw) 25 20 (l0 :: l1 :: .val (.int x) :: L) S k n H Q := W_istn (rfl : (pj lw).1 25 19 = some (.istore_n 2, 1, 0)) rfl rfl
theorem w25_20 {x : Nat} : W (pj lw) 25 20 (.val (.ref x) :: L) S k n H Q ↔ W (pj lw) 25 21 (.val (.ref x) :: L) (.ref x :: S) k n H Q := W_s (rfl : (pj lw).1 25 20 = some (.aload_n 0, 1, 0)) rfl rfl rfl
theorem w25_21 {a : Nat} : W (pj lw) 25 21 L (.ref a :: S) k n H Q ↔ (isO H a = true ∧ W (pj lw) 25 24 L (fld H a 6 :: S) k n H Q) := W_getf (rfl : (pj lw).1 25 21 = some (.getfield 7, 3, 6))
theorem w25_24 {x : Int32} {l0 : Slot} : W (pj lw) 25 24 (l0 :: .val (.int x) :: L) S k n H Q ↔ W (pj lw) 25 25 (l0 :: .val (.int x) :: L) (.int x :: S) k n H Q := W_s (rfl : (pj lw).1 25 24 = some (.iload_n 1, 1, 0)) rfl rfl rfl
theorem w25_25 {i : Int32} {a : Nat} : W (pj lw) 25 25 L (.int i :: .ref a :: S) k n H Q ↔ (inA H a .int i = true ∧ W (pj lw) 25 26 L (elt H a i :: S) k n H Q) := W_iaload (rfl : (pj lw).1 25 25 = some (.iaload, 1, 0))
theorem w25_26 {x : Int32} {l0 l1 l2 : Slot} : W (pj lw) 25 26 (l0 :: l1 :: l2 :: .unset :: L) (.int x :: S) k n H Q ↔ W (pj lw) 25 27 (l0 :: l1 :: l2 :: .val (.int x) :: L) S k n H Q := W_istn (rfl : (pj lw).1 25 26 = some (.istore_n 3, 1, 0)) rfl rfl
theorem w25_27 {x : Nat} : W (pj lw) 25 27 (.val (.ref x) :: L) S k n H Q ↔ W (pj lw) 25 28 (.val (.ref x) :: L) (.ref x :: S) k n H Q := W_s (rfl : (pj lw).1 25 27 = some (.aload_n 0, 1, 0)) rfl rfl rfl
theorem w25_28 {x : Int32} {l0 : Slot} : W (pj lw) 25 28 (l0 :: .val (.int x) :: L) S k n H Q ↔ W (pj lw) 25 29 (l0 :: .val (.int x) :: L) (.int x :: S) k n H Q := W_s (rfl : (pj lw).1 25 28 = some (.iload_n 1, 1, 0)) rfl rfl rfl
theorem w25_29 {x : Int32} {l0 l1 : Slot} : W (pj lw) 25 29 (l0 :: l1 :: .val (.int x) :: L) S k n H Q ↔ W (pj lw) 25 30 (l0 :: l1 :: .val (.int x) :: L) (.int x :: S) k n H Q := W_s (rfl : (pj lw).1 25 29 = some (.iload_n 2, 1, 0)) rfl rfl rfl
theorem w25_30 {a : Nat} {x0 : Int32} {x1 : Int32} : W (pj lw) 25 30 L (.int x1 :: .int x0 :: .ref a :: S) k n H Q ↔ ((isO H a = true ∧ cs S + (6 + 11) + 57 ≤ 74) ∧ Cl (pj lw) 23 [.ref a, .int x0, .int x1] H (fun v H => W (pj lw) 25 33 L (v.toList ++ S) k n H Q)) := W_inst (as := [.int x0, .int x1]) (rfl : (pj lw).1 25 30 = some (.invokevirtual 104, 3, 23)) rfl rfl rfl (Nat.le_of_ble_eq_true rfl) (Nat.le_of_ble_eq_true rfl) ⟨rfl, rfl⟩
theorem w25_33 {x : Int32} : W (pj lw) 25 33 L (.int x :: S) k n H Q ↔ (if x = 0 then W (pj lw) 25 36 L S k n H Q else W (pj lw) 25 45 L S k n H Q) := W_if_ne (rfl : (pj lw).1 25 33 = some (.ifCond .ne 12, 3, 0)) rfl
theorem w25_36 {x : Nat} : W (pj lw) 25 36 (.val (.ref x) :: L) S k n H Q ↔ W (pj lw) 25 37 (.val (.ref x) :: L) (.ref x :: S) k n H Q := W_s (rfl : (pj lw).1 25 36 = some (.aload_n 0, 1, 0)) rfl rfl rfl
theorem w25_37 {x : Int32} {l0 l1 l2 : Slot} : W (pj lw) 25 37 (l0 :: l1 :: l2 :: .val (.int x) :: L) S k n H Q ↔ W (pj lw) 25 38 (l0 :: l1 :: l2 :: .val (.int x) :: L) (.int x :: S) k n H Q := W_s (rfl : (pj lw).1 25 37 = some (.iload_n 3, 1, 0)) rfl rfl rfl
theorem w25_38 {x : Int32} {l0 l1 : Slot} : W (pj lw) 25 38 (l0 :: l1 :: .val (.int x) :: L) S k n H Q ↔ W (pj lw) 25 39 (l0 :: l1 :: .val (.int x) :: L) (.int x :: S) k n H Q := W_s (rfl : (pj lw).1 25 38 = some (.iload_n 2, 1, 0)) rfl rfl rfl
theorem w25_39 {a : Nat} {x0 : Int32} {x1 : Int32} : W (pj lw) 25 39 L (.int x1 :: .int x0 :: .ref a :: S) k n H Q ↔ ((isO H a = true ∧ cs S + (4 + 11) + 13 ≤ 74) ∧ Cl (pj lw) 19 [.ref a, .int x0, .int x1] H (fun v H => W (pj lw) 25 42 L (v.toList ++ S) k n H Q)) := W_inst (as := [.int x0, .int x1]) (rfl : (pj lw).1 25 39 = some (.invokevirtual 79, 3, 19)) rfl rfl rfl (Nat.le_of_ble_eq_true rfl) (Nat.le_of_ble_eq_true rfl) ⟨rfl, rfl⟩
theorem w25_42 {x : Int32} : W (pj lw) 25 42 L (.int x :: S) k n H Q ↔ (if x = 0 then W (pj lw) 25 47 L S k n H Q else W (pj lw) 25 45 L S k n H Q) := W_if_eq (rfl : (pj lw).1 25 42 = some (.ifCond .eq 5, 3, 0)) rfl
theorem w25_45 {x : Int32} {l0 l1 : Slot} : W (pj lw) 25 45 (l0 :: l1 :: .val (.int x) :: L) S k n H Q ↔ W (pj lw) 25 46 (l0 :: l1 :: .val (.int x) :: L) (.int x :: S) k n H Q := W_s (rfl : (pj lw).1 25 45 = some (.iload_n 2, 1, 0)) rfl rfl rfl
theorem w25_46 {x : Int32} : W (pj lw) 25 46 L (.int x :: S) k n H Q ↔ Q (some (.int x)) H := W_r (rfl : (pj lw).1 25 46 = some (.ireturn, 1, 0)) rfl
theorem w25_47 {x : Nat} : W (pj lw) 25 47 (.val (.ref x) :: L) S k n H Q ↔ W (pj lw) 25 48 (.val (.ref x) :: L) (.ref x :: S) k n H Q := W_s (rfl : (pj lw).1 25 47 = some (.aload_n 0, 1, 0)) rfl rfl rfl
theorem w25_48 {x : Int32} {l0 : Slot} : W (pj lw) 25 48 (l0 :: .val (.int x) :: L) S k n H Q ↔ W (pj lw) 25 49 (l0 :: .val (.int x) :: L) (.int x :: S) k n H Q := W_s (rfl : (pj lw).1 25 48 = some (.iload_n 1, 1, 0)) rfl rfl rfl
theorem w25_49 {x : Int32} {l0 l1 : Slot} : W (pj lw) 25 49 (l0 :: l1 :: .val (.int x) :: L) S k n H Q ↔ W (pj lw) 25 50 (l0 :: l1 :: .val (.int x) :: L) (.int x :: S) k n H Q := W_s (rfl : (pj lw).1 25 49 = some (.iload_n 2, 1, 0)) rfl rfl rfl
theorem w25_50 {x : Int32} : W (pj lw) 25 50 L (.int x :: S) k n H Q ↔ W (pj lw) 25 51 L (.int (-x) :: S) k n H Q := W_s (rfl : (pj lw).1 25 50 = some (.ineg, 1, 0)) rfl rfl rfl
theorem w25_51 {a : Nat} {x0 : Int32} {x1 : Int32} : W (pj lw) 25 51 L (.int x1 :: .int x0 :: .ref a :: S) k n H Q ↔ ((isO H a = true ∧ cs S + (6 + 11) + 57 ≤ 74) ∧ Cl (pj lw) 23 [.ref a, .int x0, .int x1] H (fun v H => W (pj lw) 25 54 L (v.toList ++ S) k n H Q)) := W_inst (as := [.int x0, .int x1]) (rfl : (pj lw).1 25 51 = some (.invokevirtual 104, 3, 23)) rfl rfl rfl (Nat.le_of_ble_eq_true rfl) (Nat.le_of_ble_eq_true rfl) ⟨rfl, rfl⟩
theorem w25_54 {x : Int32} : W (pj lw) 25 54 L (.int x :: S) k n H Q ↔ (if x = 0 then W (pj lw) 25 57 L S k n H Q else W (pj lw) 25 67 L S k n H Q) := W_if_ne (rfl : (pj lw).1 25 54 = some (.ifCond .ne 13, 3, 0)) rfl
theorem w25_57 {x : Nat} : W (pj lw) 25 57 (.val (.ref x) :: L) S k n H Q ↔ W (pj lw) 25 58 (.val (.ref x) :: L) (.ref x :: S) k n H Q := W_s (rfl : (pj lw).1 25 57 = some (.aload_n 0, 1, 0)) rfl rfl rfl
theorem w25_58 {x : Int32} {l0 l1 l2 : Slot} : W (pj lw) 25 58 (l0 :: l1 :: l2 :: .val (.int x) :: L) S k n H Q ↔ W (pj lw) 25 59 (l0 :: l1 :: l2 :: .val (.int x) :: L) (.int x :: S) k n H Q := W_s (rfl : (pj lw).1 25 58 = some (.iload_n 3, 1, 0)) rfl rfl rfl
theorem w25_59 {x : Int32} {l0 l1 : Slot} : W (pj lw) 25 59 (l0 :: l1 :: .val (.int x) :: L) S k n H Q ↔ W (pj lw) 25 60 (l0 :: l1 :: .val (.int x) :: L) (.int x :: S) k n H Q := W_s (rfl : (pj lw).1 25 59 = some (.iload_n 2, 1, 0)) rfl rfl rfl
theorem w25_60 {x : Int32} : W (pj lw) 25 60 L (.int x :: S) k n H Q ↔ W (pj lw) 25 61 L (.int (-x) :: S) k n H Q := W_s (rfl : (pj lw).1 25 60 = some (.ineg, 1, 0)) rfl rfl rfl
theorem w25_61 {a : Nat} {x0 : Int32} {x1 : Int32} : W (pj lw) 25 61 L (.int x1 :: .int x0 :: .ref a :: S) k n H Q ↔ ((isO H a = true ∧ cs S + (4 + 11) + 13 ≤ 74) ∧ Cl (pj lw) 19 [.ref a, .int x0, .int x1] H (fun v H => W (pj lw) 25 64 L (v.toList ++ S) k n H Q)) := W_inst (as := [.int x0, .int x1]) (rfl : (pj lw).1 25 61 = some (.invokevirtual 79, 3, 19)) rfl rfl rfl (Nat.le_of_ble_eq_true rfl) (Nat.le_of_ble_eq_true rfl) ⟨rfl, rfl⟩
theorem w25_64 {x : Int32} : W (pj lw) 25 64 L (.int x :: S) k n H Q ↔ (if x = 0 then W (pj lw) 25 70 L S k n H Q else W (pj lw) 25 67 L S k n H Q) := W_if_eq (rfl : (pj lw).1 25 64 = some (.ifCond .eq 6, 3, 0)) rfl
theorem w25_67 {x : Int32} {l0 l1 : Slot} : W (pj lw) 25 67 (l0 :: l1 :: .val (.int x) :: L) S k n H Q ↔ W (pj lw) 25 68 (l0 :: l1 :: .val (.int x) :: L) (.int x :: S) k n H Q := W_s (rfl : (pj lw).1 25 67 = some (.iload_n 2, 1, 0)) rfl rfl rfl
theorem w25_68 {x : Int32} : W (pj lw) 25 68 L (.int x :: S) k n H Q ↔ W (pj lw) 25 69 L (.int (-x) :: S) k n H Q := W_s (rfl : (pj lw).1 25 68 = some (.ineg, 1, 0)) rfl rfl rfl
theorem w25_69 {x : Int32} : W (pj lw) 25 69 L (.int x :: S) k n H Q ↔ Q (some (.int x)) H := W_r (rfl : (pj lw).1 25 69 = some (.ireturn, 1, 0)) rfl
theorem w25_70 : W (pj lw) 25 70 L S k n H Q ↔ W (pj lw) 25 71 L (.int 0 :: S) k n H Q := W_s (rfl : (pj lw).1 25 70 = some (.iconst 0, 1, 0)) rfl rfl rfl
theorem w25_71 {x : Int32} : W (pj lw) 25 71 L (.int x :: S) k n H Q ↔ Q (some (.int x)) H := W_r (rfl : (pj lw).1 25 71 = some (.ireturn, 1, 0)) rfl
theorem c26 {x0 : Nat} : Cl (pj lw) 26 [.ref x0] H Q ↔ W (pj lw) 26 0 [.val (.ref x0), .unset] [] 0 0 H Q := cl_unf rfl
theorem w26_0 {x : Nat} : W (pj lw) 26 0 (.val (.ref x) :: L) S k n H Q ↔ W (pj lw) 26 1 (.val (.ref x) :: L) (.ref x :: S) k n H Q := W_s (rfl : (pj lw).1 26 0 = some (.aload_n 0, 1, 0)) rfl rfl rfl
theorem w26_1 {a : Nat} : W (pj lw) 26 1 L (.ref a :: S) k n H Q ↔ ((isO H a = true ∧ cs S + (2 + 11) + 0 ≤ 119) ∧ Cl (pj lw) 27 [.ref a] H (fun v H => W (pj lw) 26 4 L (v.toList ++ S) k n H Q)) := W_inst (as := []) (rfl : (pj lw).1 26 1 = some (.invokevirtual 107, 3, 27)) rfl rfl rfl (Nat.le_of_ble_eq_true rfl) (Nat.le_of_ble_eq_true rfl) ⟨rfl, rfl⟩
theorem w26_4 {x : Nat} : W (pj lw) 26 4 (.val (.ref x) :: L) S k n H Q ↔ W (pj lw) 26 5 (.val (.ref x) :: L) (.ref x :: S) k n H Q := W_s (rfl : (pj lw).1 26 4 = some (.aload_n 0, 1, 0)) rfl rfl rfl
theorem w26_5 {a : Nat} : W (pj lw) 26 5 L (.ref a :: S) k n H Q ↔ ((isO H a = true ∧ cs S + (4 + 11) + 47 ≤ 119) ∧ Cl (pj lw) 28 [.ref a] H (fun v H => W (pj lw) 26 8 L (v.toList ++ S) k n H Q)) := W_inst (as := []) (rfl : (pj lw).1 26 5 = some (.invokevirtual 110, 3, 28)) rfl rfl rfl (Nat.le_of_ble_eq_true rfl) (Nat.le_of_ble_eq_true rfl) ⟨rfl, rfl⟩
theorem w26_8 : W (pj lw) 26 8 L S k n H Q ↔ W (pj lw) 26 9 L (.int 0 :: S) k n H Q := W_s (rfl : (pj lw).1 26 8 = some (.iconst 0, 1, 0)) rfl rfl rfl
theorem w26_9 {x : Int32} {l0 : Slot} : W (pj lw) 26 9 (l0 :: .unset :: L) (.int x :: S) k n H Q ↔ W (pj lw) 26 10 (l0 :: .val (.int x) :: L) S k n H Q := W_istn (rfl : (pj lw).1 26 9 = some (.istore_n 1, 1, 0)) rfl rfl
theorem w26_10 {x : Int32} {l0 : Slot} : W (pj lw) 26 10 (l0 :: .val (.int x) :: L) S k n H Q ↔ W (pj lw) 26 11 (l0 :: .val (.int x) :: L) (.int x :: S) k n H Q := W_s (rfl : (pj lw).1 26 10 = some (.iload_n 1, 1, 0)) rfl rfl rfl
theorem w26_11 {x : Nat} : W (pj lw) 26 11 (.val (.ref x) :: L) S k n H Q ↔ W (pj lw) 26 12 (.val (.ref x) :: L) (.ref x :: S) k n H Q := W_s (rfl : (pj lw).1 26 11 = some (.aload_n 0, 1, 0)) rfl rfl rfl
theorem w26_12 {a : Nat} : W (pj lw) 26 12 L (.ref a :: S) k n H Q ↔ (isO H a = true ∧ W (pj lw) 26 15 L (fld H a 0 :: S) k n H Q) := W_getf (rfl : (pj lw).1 26 12 = some (.getfield 53, 3, 0))
theorem w26_15 {x y : Int32} : W (pj lw) 26 15 L (.int y :: .int x :: S) k n H Q ↔ (if x < y then W (pj lw) 26 18 L S k n H Q else W (pj lw) 26 29 L S k n H Q) := W_icmp_ge (rfl : (pj lw).1 26 15 = some (.if_icmp .ge 14, 3, 0)) rfl
theorem w26_18 {x : Nat} : W (pj lw) 26 18 (.val (.ref x) :: L) S k n H Q ↔ W (pj lw) 26 19 (.val (.ref x) :: L) (.ref x :: S) k n H Q := W_s (rfl : (pj lw).1 26 18 = some (.aload_n 0, 1, 0)) rfl rfl rfl
theorem w26_19 {x : Int32} {l0 : Slot} : W (pj lw) 26 19 (l0 :: .val (.int x) :: L) S k n H Q ↔ W (pj lw) 26 20 (l0 :: .val (.int x) :: L) (.int x :: S) k n H Q := W_s (rfl : (pj lw).1 26 19 = some (.iload_n 1, 1, 0)) rfl rfl rfl
theorem w26_20 {a : Nat} {x0 : Int32} : W (pj lw) 26 20 L (.int x0 :: .ref a :: S) k n H Q ↔ ((isO H a = true ∧ cs S + (3 + 11) + 105 ≤ 119) ∧ Cl (pj lw) 31 [.ref a, .int x0] H (fun v H => W (pj lw) 26 23 L (v.toList ++ S) k n H Q)) := W_inst (as := [.int x0]) (rfl : (pj lw).1 26 20 = some (.invokevirtual 113, 3, 31)) rfl rfl rfl (Nat.le_of_ble_eq_true rfl) (Nat.le_of_ble_eq_true rfl) ⟨rfl, rfl⟩
theorem w26_23 {x : Int32} {l0 : Slot} : W (pj lw) 26 23 (l0 :: .val (.int x) :: L) S k n H Q ↔ W (pj lw) 26 26 (l0 :: .val (.int (x + 1)) :: L) S k n H Q := W_s (rfl : (pj lw).1 26 23 = some (.iinc 1 1, 3, 0)) rfl rfl rfl
theorem w26_26 : W (pj lw) 26 26 L S k n H Q ↔ W (pj lw) 26 10 L S k n H Q := W_goto (rfl : (pj lw).1 26 26 = some (.goto (-16), 3, 0)) rfl
theorem w26_29 {x : Nat} : W (pj lw) 26 29 (.val (.ref x) :: L) S k n H Q ↔ W (pj lw) 26 30 (.val (.ref x) :: L) (.ref x :: S) k n H Q := W_s (rfl : (pj lw).1 26 29 = some (.aload_n 0, 1, 0)) rfl rfl rfl
theorem w26_30 {x : Nat} : W (pj lw) 26 30 (.val (.ref x) :: L) S k n H Q ↔ W (pj lw) 26 31 (.val (.ref x) :: L) (.ref x :: S) k n H Q := W_s (rfl : (pj lw).1 26 30 = some (.aload_n 0, 1, 0)) rfl rfl rfl
theorem w26_31 {a : Nat} : W (pj lw) 26 31 L (.ref a :: S) k n H Q ↔ (isO H a = true ∧ W (pj lw) 26 34 L (fld H a 3 :: S) k n H Q) := W_getf (rfl : (pj lw).1 26 31 = some (.getfield 66, 3, 3))
theorem w26_34 : W (pj lw) 26 34 L S k n H Q ↔ W (pj lw) 26 35 L (.int 1 :: S) k n H Q := W_s (rfl : (pj lw).1 26 34 = some (.iconst 1, 1, 0)) rfl rfl rfl
theorem w26_35 {x y : Int32} : W (pj lw) 26 35 L (.int y :: .int x :: S) k n H Q ↔ W (pj lw) 26 36 L (.int (x + y) :: S) k n H Q := W_s (rfl : (pj lw).1 26 35 = some (.iadd, 1, 0)) rfl rfl rfl
theorem w26_36 {a : Nat} {v : Value} : W (pj lw) 26 36 L (v :: .ref a :: S) k n H Q ↔ ((isOw H a = true ∧ okv (.int) v = true) ∧ W (pj lw) 26 39 L S k n (wr H a 3 v) Q) := W_putf (rfl : (pj lw).1 26 36 = some (.putfield 66, 3, 3))
theorem w26_39 : W (pj lw) 26 39 L [] k n H Q ↔ Q none H := W_r (rfl : (pj lw).1 26 39 = some (.return_, 1, 0)) rfl
theorem c27 {x0 : Nat} : Cl (pj lw) 27 [.ref x0] H Q ↔ W (pj lw) 27 0 [.val (.ref x0), .unset] [] 0 0 H Q := cl_unf rfl
theorem w27_0 : W (pj lw) 27 0 L S k n H Q ↔ W (pj lw) 27 1 L (.int 0 :: S) k n H Q := W_s (rfl : (pj lw).1 27 0 = some (.iconst 0, 1, 0)) rfl rfl rfl
theorem w27_1 {x : Int32} {l0 : Slot} : W (pj lw) 27 1 (l0 :: .unset :: L) (.int x :: S) k n H Q ↔ W (pj lw) 27 2 (l0 :: .val (.int x) :: L) S k n H Q := W_istn (rfl : (pj lw).1 27 1 = some (.istore_n 1, 1, 0)) rfl rfl
theorem w27_2 {x : Int32} {l0 : Slot} : W (pj lw) 27 2 (l0 :: .val (.int x) :: L) S k n H Q ↔ W (pj lw) 27 3 (l0 :: .val (.int x) :: L) (.int x :: S) k n H Q := W_s (rfl : (pj lw).1 27 2 = some (.iload_n 1, 1, 0)) rfl rfl rfl
theorem w27_3 {x : Nat} : W (pj lw) 27 3 (.val (.ref x) :: L) S k n H Q ↔ W (pj lw) 27 4 (.val (.ref x) :: L) (.ref x :: S) k n H Q := W_s (rfl : (pj lw).1 27 3 = some (.aload_n 0, 1, 0)) rfl rfl rfl
theorem w27_4 {a : Nat} : W (pj lw) 27 4 L (.ref a :: S) k n H Q ↔ (isO H a = true ∧ W (pj lw) 27 7 L (fld H a 4 :: S) k n H Q) := W_getf (rfl : (pj lw).1 27 4 = some (.getfield 63, 3, 4))
theorem w27_7 {x y : Int32} : W (pj lw) 27 7 L (.int y :: .int x :: S) k n H Q ↔ (if x < y then W (pj lw) 27 10 L S k n H Q else W (pj lw) 27 45 L S k n H Q) := W_icmp_ge (rfl : (pj lw).1 27 7 = some (.if_icmp .ge 38, 3, 0)) rfl
theorem w27_10 {x : Nat} : W (pj lw) 27 10 (.val (.ref x) :: L) S k n H Q ↔ W (pj lw) 27 11 (.val (.ref x) :: L) (.ref x :: S) k n H Q := W_s (rfl : (pj lw).1 27 10 = some (.aload_n 0, 1, 0)) rfl rfl rfl
theorem w27_11 {a : Nat} : W (pj lw) 27 11 L (.ref a :: S) k n H Q ↔ (isO H a = true ∧ W (pj lw) 27 14 L (fld H a 11 :: S) k n H Q) := W_getf (rfl : (pj lw).1 27 11 = some (.getfield 25, 3, 11))
theorem w27_14 {x : Int32} {l0 : Slot} : W (pj lw) 27 14 (l0 :: .val (.int x) :: L) S k n H Q ↔ W (pj lw) 27 15 (l0 :: .val (.int x) :: L) (.int x :: S) k n H Q := W_s (rfl : (pj lw).1 27 14 = some (.iload_n 1, 1, 0)) rfl rfl rfl
theorem w27_15 {i : Int32} {a : Nat} : W (pj lw) 27 15 L (.int i :: .ref a :: S) k n H Q ↔ (inA H a .int i = true ∧ W (pj lw) 27 16 L (elt H a i :: S) k n H Q) := W_iaload (rfl : (pj lw).1 27 15 = some (.iaload, 1, 0))
theorem w27_16 {x : Int32} : W (pj lw) 27 16 L (.int x :: S) k n H Q ↔ (if x = 0 then W (pj lw) 27 19 L S k n H Q else W (pj lw) 27 39 L S k n H Q) := W_if_ne (rfl : (pj lw).1 27 16 = some (.ifCond .ne 23, 3, 0)) rfl
theorem w27_19 {x : Nat} : W (pj lw) 27 19 (.val (.ref x) :: L) S k n H Q ↔ W (pj lw) 27 20 (.val (.ref x) :: L) (.ref x :: S) k n H Q := W_s (rfl : (pj lw).1 27 19 = some (.aload_n 0, 1, 0)) rfl rfl rfl
theorem w27_20 {a : Nat} : W (pj lw) 27 20 L (.ref a :: S) k n H Q ↔ (isO H a = true ∧ W (pj lw) 27 23 L (fld H a 14 :: S) k n H Q) := W_getf (rfl : (pj lw).1 27 20 = some (.getfield 34, 3, 14))
theorem w27_23 {x : Int32} {l0 : Slot} : W (pj lw) 27 23 (l0 :: .val (.int x) :: L) S k n H Q ↔ W (pj lw) 27 24 (l0 :: .val (.int x) :: L) (.int x :: S) k n H Q := W_s (rfl : (pj lw).1 27 23 = some (.iload_n 1, 1, 0)) rfl rfl rfl
theorem w27_24 {i : Int32} {a : Nat} : W (pj lw) 27 24 L (.int i :: .ref a :: S) k n H Q ↔ (inA H a .int i = true ∧ W (pj lw) 27 25 L (elt H a i :: S) k n H Q) := W_iaload (rfl : (pj lw).1 27 24 = some (.iaload, 1, 0))
theorem w27_25 {x : Nat} : W (pj lw) 27 25 (.val (.ref x) :: L) S k n H Q ↔ W (pj lw) 27 26 (.val (.ref x) :: L) (.ref x :: S) k n H Q := W_s (rfl : (pj lw).1 27 25 = some (.aload_n 0, 1, 0)) rfl rfl rfl
theorem w27_26 {a : Nat} : W (pj lw) 27 26 L (.ref a :: S) k n H Q ↔ (isO H a = true ∧ W (pj lw) 27 29 L (fld H a 3 :: S) k n H Q) := W_getf (rfl : (pj lw).1 27 26 = some (.getfield 66, 3, 3))
theorem w27_29 {x y : Int32} : W (pj lw) 27 29 L (.int y :: .int x :: S) k n H Q ↔ (if x = y then W (pj lw) 27 32 L S k n H Q else W (pj lw) 27 39 L S k n H Q) := W_icmp_ne (rfl : (pj lw).1 27 29 = some (.if_icmp .ne 10, 3, 0)) rfl
theorem w27_32 {x : Nat} : W (pj lw) 27 32 (.val (.ref x) :: L) S k n H Q ↔ W (pj lw) 27 33 (.val (.ref x) :: L) (.ref x :: S) k n H Q := W_s (rfl : (pj lw).1 27 32 = some (.aload_n 0, 1, 0)) rfl rfl rfl
theorem w27_33 {a : Nat} : W (pj lw) 27 33 L (.ref a :: S) k n H Q ↔ (isO H a = true ∧ W (pj lw) 27 36 L (fld H a 11 :: S) k n H Q) := W_getf (rfl : (pj lw).1 27 33 = some (.getfield 25, 3, 11))
theorem w27_36 {x : Int32} {l0 : Slot} : W (pj lw) 27 36 (l0 :: .val (.int x) :: L) S k n H Q ↔ W (pj lw) 27 37 (l0 :: .val (.int x) :: L) (.int x :: S) k n H Q := W_s (rfl : (pj lw).1 27 36 = some (.iload_n 1, 1, 0)) rfl rfl rfl
theorem w27_37 : W (pj lw) 27 37 L S k n H Q ↔ W (pj lw) 27 38 L (.int 1 :: S) k n H Q := W_s (rfl : (pj lw).1 27 37 = some (.iconst 1, 1, 0)) rfl rfl rfl
theorem w27_38 {x i : Int32} {a : Nat} : W (pj lw) 27 38 L (.int x :: .int i :: .ref a :: S) k n H Q ↔ (inAw H a .int i = true ∧ W (pj lw) 27 39 L S k n (wr H a i.toNatClampNeg (.int x)) Q) := W_iastore (rfl : (pj lw).1 27 38 = some (.iastore, 1, 0))
theorem w27_39 {x : Int32} {l0 : Slot} : W (pj lw) 27 39 (l0 :: .val (.int x) :: L) S k n H Q ↔ W (pj lw) 27 42 (l0 :: .val (.int (x + 1)) :: L) S k n H Q := W_s (rfl : (pj lw).1 27 39 = some (.iinc 1 1, 3, 0)) rfl rfl rfl
theorem w27_42 : W (pj lw) 27 42 L S k n H Q ↔ W (pj lw) 27 2 L S k n H Q := W_goto (rfl : (pj lw).1 27 42 = some (.goto (-40), 3, 0)) rfl
theorem w27_45 : W (pj lw) 27 45 L [] k n H Q ↔ Q none H := W_r (rfl : (pj lw).1 27 45 = some (.return_, 1, 0)) rfl
theorem c28 {x0 : Nat} : Cl (pj lw) 28 [.ref x0] H Q ↔ W (pj lw) 28 0 [.val (.ref x0), .unset, .unset, .unset] [] 0 0 H Q := cl_unf rfl
theorem w28_0 : W (pj lw) 28 0 L S k n H Q ↔ W (pj lw) 28 1 L (.int 0 :: S) k n H Q := W_s (rfl : (pj lw).1 28 0 = some (.iconst 0, 1, 0)) rfl rfl rfl
theorem w28_1 {x : Int32} {l0 : Slot} : W (pj lw) 28 1 (l0 :: .unset :: L) (.int x :: S) k n H Q ↔ W (pj lw) 28 2 (l0 :: .val (.int x) :: L) S k n H Q := W_istn (rfl : (pj lw).1 28 1 = some (.istore_n 1, 1, 0)) rfl rfl
theorem w28_2 {x : Int32} {l0 : Slot} : W (pj lw) 28 2 (l0 :: .val (.int x) :: L) S k n H Q ↔ W (pj lw) 28 3 (l0 :: .val (.int x) :: L) (.int x :: S) k n H Q := W_s (rfl : (pj lw).1 28 2 = some (.iload_n 1, 1, 0)) rfl rfl rfl
theorem w28_3 {x : Nat} : W (pj lw) 28 3 (.val (.ref x) :: L) S k n H Q ↔ W (pj lw) 28 4 (.val (.ref x) :: L) (.ref x :: S) k n H Q := W_s (rfl : (pj lw).1 28 3 = some (.aload_n 0, 1, 0)) rfl rfl rfl
theorem w28_4 {a : Nat} : W (pj lw) 28 4 L (.ref a :: S) k n H Q ↔ (isO H a = true ∧ W (pj lw) 28 7 L (fld H a 1 :: S) k n H Q) := W_getf (rfl : (pj lw).1 28 4 = some (.getfield 57, 3, 1))
theorem w28_7 {x y : Int32} : W (pj lw) 28 7 L (.int y :: .int x :: S) k n H Q ↔ (if x < y then W (pj lw) 28 10 L S k n H Q else W (pj lw) 28 45 L S k n H Q) := W_icmp_ge (rfl : (pj lw).1 28 7 = some (.if_icmp .ge 38, 3, 0)) rfl
theorem w28_10 : W (pj lw) 28 10 L S k n H Q ↔ W (pj lw) 28 11 L (.int 0 :: S) k n H Q := W_s (rfl : (pj lw).1 28 10 = some (.iconst 0, 1, 0)) rfl rfl rfl
theorem w28_11i {y : Int32} {x : Int32} {l0 l1 : Slot} : W (pj lw) 28 11 (l0 :: l1 :: .val (.int y) :: L) (.int x :: S) k n H Q ↔ W (pj lw) 28 12 (l0 :: l1 :: .val (.int x) :: L) S k n H Q := W_istn (rfl : (pj lw).1 28 11 = some (.istore_n 2, 1, 0)) rfl rfl
theorem w28_11 {x : Int32} {l0 l1 : Slot} : W (pj lw) 28 11 (l0 :: l1 :: .unset :: L) (.int x :: S) k n H Q ↔ W (pj lw) 28 12 (l0 :: l1 :: .val (.int x) :: L) S k n H Q := W_istn (rfl : (pj lw).1 28 11 = some (.istore_n 2, 1, 0)) rfl rfl
theorem w28_12 {x : Int32} {l0 l1 : Slot} : W (pj lw) 28 12 (l0 :: l1 :: .val (.int x) :: L) S k n H Q ↔ W (pj lw) 28 13 (l0 :: l1 :: .val (.int x) :: L) (.int x :: S) k n H Q := W_s (rfl : (pj lw).1 28 12 = some (.iload_n 2, 1, 0)) rfl rfl rfl
theorem w28_13 : W (pj lw) 28 13 L S k n H Q ↔ W (pj lw) 28 14 L (.int 2 :: S) k n H Q := W_s (rfl : (pj lw).1 28 13 = some (.iconst 2, 1, 0)) rfl rfl rfl
theorem w28_14 {x y : Int32} : W (pj lw) 28 14 L (.int y :: .int x :: S) k n H Q ↔ (if x < y then W (pj lw) 28 17 L S k n H Q else W (pj lw) 28 39 L S k n H Q) := W_icmp_ge (rfl : (pj lw).1 28 14 = some (.if_icmp .ge 25, 3, 0)) rfl
theorem w28_17 {x : Int32} {l0 l1 : Slot} : W (pj lw) 28 17 (l0 :: l1 :: .val (.int x) :: L) S k n H Q ↔ W (pj lw) 28 18 (l0 :: l1 :: .val (.int x) :: L) (.int x :: S) k n H Q := W_s (rfl : (pj lw).1 28 17 = some (.iload_n 2, 1, 0)) rfl rfl rfl
theorem w28_18 {x : Int32} : W (pj lw) 28 18 L (.int x :: S) k n H Q ↔ (if x = 0 then W (pj lw) 28 21 L S k n H Q else W (pj lw) 28 25 L S k n H Q) := W_if_ne (rfl : (pj lw).1 28 18 = some (.ifCond .ne 7, 3, 0)) rfl
theorem w28_21 : W (pj lw) 28 21 L S k n H Q ↔ W (pj lw) 28 22 L (.int 1 :: S) k n H Q := W_s (rfl : (pj lw).1 28 21 = some (.iconst 1, 1, 0)) rfl rfl rfl
theorem w28_22 : W (pj lw) 28 22 L S k n H Q ↔ W (pj lw) 28 26 L S k n H Q := W_goto (rfl : (pj lw).1 28 22 = some (.goto 4, 3, 0)) rfl
theorem w28_25 : W (pj lw) 28 25 L S k n H Q ↔ W (pj lw) 28 26 L (.int (-1) :: S) k n H Q := W_s (rfl : (pj lw).1 28 25 = some (.iconst (-1), 1, 0)) rfl rfl rfl
theorem w28_26i {y : Int32} {x : Int32} {l0 l1 l2 : Slot} : W (pj lw) 28 26 (l0 :: l1 :: l2 :: .val (.int y) :: L) (.int x :: S) k n H Q ↔ W (pj lw) 28 27 (l0 :: l1 :: l2 :: .val (.int x) :: L) S k n H Q := W_istn (rfl : (pj lw).1 28 26 = some (.istore_n 3, 1, 0)) rfl rfl
theorem w28_26 {x : Int32} {l0 l1 l2 : Slot} : W (pj lw) 28 26 (l0 :: l1 :: l2 :: .unset :: L) (.int x :: S) k n H Q ↔ W (pj lw) 28 27 (l0 :: l1 :: l2 :: .val (.int x) :: L) S k n H Q := W_istn (rfl : (pj lw).1 28 26 = some (.istore_n 3, 1, 0)) rfl rfl
theorem w28_27 {x : Nat} : W (pj lw) 28 27 (.val (.ref x) :: L) S k n H Q ↔ W (pj lw) 28 28 (.val (.ref x) :: L) (.ref x :: S) k n H Q := W_s (rfl : (pj lw).1 28 27 = some (.aload_n 0, 1, 0)) rfl rfl rfl
theorem w28_28 {x : Int32} {l0 : Slot} : W (pj lw) 28 28 (l0 :: .val (.int x) :: L) S k n H Q ↔ W (pj lw) 28 29 (l0 :: .val (.int x) :: L) (.int x :: S) k n H Q := W_s (rfl : (pj lw).1 28 28 = some (.iload_n 1, 1, 0)) rfl rfl rfl
theorem w28_29 {x : Int32} {l0 l1 l2 : Slot} : W (pj lw) 28 29 (l0 :: l1 :: l2 :: .val (.int x) :: L) S k n H Q ↔ W (pj lw) 28 30 (l0 :: l1 :: l2 :: .val (.int x) :: L) (.int x :: S) k n H Q := W_s (rfl : (pj lw).1 28 29 = some (.iload_n 3, 1, 0)) rfl rfl rfl
theorem w28_30 {a : Nat} {x0 : Int32} {x1 : Int32} : W (pj lw) 28 30 L (.int x1 :: .int x0 :: .ref a :: S) k n H Q ↔ ((isO H a = true ∧ cs S + (8 + 11) + 28 ≤ 47) ∧ Cl (pj lw) 29 [.ref a, .int x0, .int x1] H (fun v H => W (pj lw) 28 33 L (v.toList ++ S) k n H Q)) := W_inst (as := [.int x0, .int x1]) (rfl : (pj lw).1 28 30 = some (.invokevirtual 117, 3, 29)) rfl rfl rfl (Nat.le_of_ble_eq_true rfl) (Nat.le_of_ble_eq_true rfl) ⟨rfl, rfl⟩
theorem w28_33 {x : Int32} {l0 l1 : Slot} : W (pj lw) 28 33 (l0 :: l1 :: .val (.int x) :: L) S k n H Q ↔ W (pj lw) 28 36 (l0 :: l1 :: .val (.int (x + 1)) :: L) S k n H Q := W_s (rfl : (pj lw).1 28 33 = some (.iinc 2 1, 3, 0)) rfl rfl rfl
theorem w28_36 : W (pj lw) 28 36 L S k n H Q ↔ W (pj lw) 28 12 L S k n H Q := W_goto (rfl : (pj lw).1 28 36 = some (.goto (-24), 3, 0)) rfl
theorem w28_39 {x : Int32} {l0 : Slot} : W (pj lw) 28 39 (l0 :: .val (.int x) :: L) S k n H Q ↔ W (pj lw) 28 42 (l0 :: .val (.int (x + 1)) :: L) S k n H Q := W_s (rfl : (pj lw).1 28 39 = some (.iinc 1 1, 3, 0)) rfl rfl rfl
theorem w28_42 : W (pj lw) 28 42 L S k n H Q ↔ W (pj lw) 28 2 L S k n H Q := W_goto (rfl : (pj lw).1 28 42 = some (.goto (-40), 3, 0)) rfl
theorem w28_45 : W (pj lw) 28 45 L [] k n H Q ↔ Q none H := W_r (rfl : (pj lw).1 28 45 = some (.return_, 1, 0)) rfl
theorem c29 {x0 : Nat} {x1 : Int32} {x2 : Int32} : Cl (pj lw) 29 [.ref x0, .int x1, .int x2] H Q ↔ W (pj lw) 29 0 [.val (.ref x0), .val (.int x1), .val (.int x2), .unset, .unset, .unset, .unset, .unset] [] 0 0 H Q := cl_unf rfl
theorem w29_0 {x : Nat} : W (pj lw) 29 0 (.val (.ref x) :: L) S k n H Q ↔ W (pj lw) 29 1 (.val (.ref x) :: L) (.ref x :: S) k n H Q := W_s (rfl : (pj lw).1 29 0 = some (.aload_n 0, 1, 0)) rfl rfl rfl
theorem w29_1 {x : Int32} {l0 : Slot} : W (pj lw) 29 1 (l0 :: .val (.int x) :: L) S k n H Q ↔ W (pj lw) 29 2 (l0 :: .val (.int x) :: L) (.int x :: S) k n H Q := W_s (rfl : (pj lw).1 29 1 = some (.iload_n 1, 1, 0)) rfl rfl rfl
theorem w29_2 {x : Int32} {l0 l1 : Slot} : W (pj lw) 29 2 (l0 :: l1 :: .val (.int x) :: L) S k n H Q ↔ W (pj lw) 29 3 (l0 :: l1 :: .val (.int x) :: L) (.int x :: S) k n H Q := W_s (rfl : (pj lw).1 29 2 = some (.iload_n 2, 1, 0)) rfl rfl rfl
theorem w29_3 {a : Nat} {x0 : Int32} {x1 : Int32} : W (pj lw) 29 3 L (.int x1 :: .int x0 :: .ref a :: S) k n H Q ↔ ((isO H a = true ∧ cs S + (3 + 11) + 0 ≤ 28) ∧ Cl (pj lw) 18 [.ref a, .int x0, .int x1] H (fun v H => W (pj lw) 29 6 L (v.toList ++ S) k n H Q)) := W_inst (as := [.int x0, .int x1]) (rfl : (pj lw).1 29 3 = some (.invokevirtual 83, 3, 18)) rfl rfl rfl (Nat.le_of_ble_eq_true rfl) (Nat.le_of_ble_eq_true rfl) ⟨rfl, rfl⟩
theorem w29_6 {x : Int32} {l0 l1 l2 : Slot} : W (pj lw) 29 6 (l0 :: l1 :: l2 :: .unset :: L) (.int x :: S) k n H Q ↔ W (pj lw) 29 7 (l0 :: l1 :: l2 :: .val (.int x) :: L) S k n H Q := W_istn (rfl : (pj lw).1 29 6 = some (.istore_n 3, 1, 0)) rfl rfl
theorem w29_7 {x : Nat} : W (pj lw) 29 7 (.val (.ref x) :: L) S k n H Q ↔ W (pj lw) 29 8 (.val (.ref x) :: L) (.ref x :: S) k n H Q := W_s (rfl : (pj lw).1 29 7 = some (.aload_n 0, 1, 0)) rfl rfl rfl
theorem w29_8 {x : Int32} {l0 : Slot} : W (pj lw) 29 8 (l0 :: .val (.int x) :: L) S k n H Q ↔ W (pj lw) 29 9 (l0 :: .val (.int x) :: L) (.int x :: S) k n H Q := W_s (rfl : (pj lw).1 29 8 = some (.iload_n 1, 1, 0)) rfl rfl rfl
theorem w29_9 {x : Int32} {l0 l1 : Slot} : W (pj lw) 29 9 (l0 :: l1 :: .val (.int x) :: L) S k n H Q ↔ W (pj lw) 29 10 (l0 :: l1 :: .val (.int x) :: L) (.int x :: S) k n H Q := W_s (rfl : (pj lw).1 29 9 = some (.iload_n 2, 1, 0)) rfl rfl rfl
theorem w29_10 {a : Nat} {x0 : Int32} {x1 : Int32} : W (pj lw) 29 10 L (.int x1 :: .int x0 :: .ref a :: S) k n H Q ↔ ((isO H a = true ∧ cs S + (4 + 11) + 13 ≤ 28) ∧ Cl (pj lw) 19 [.ref a, .int x0, .int x1] H (fun v H => W (pj lw) 29 13 L (v.toList ++ S) k n H Q)) := W_inst (as := [.int x0, .int x1]) (rfl : (pj lw).1 29 10 = some (.invokevirtual 79, 3, 19)) rfl rfl rfl (Nat.le_of_ble_eq_true rfl) (Nat.le_of_ble_eq_true rfl) ⟨rfl, rfl⟩
theorem w29_13 {x : Int32} : W (pj lw) 29 13 L (.int x :: S) k n H Q ↔ (if x = 0 then W (pj lw) 29 16 L S k n H Q else W (pj lw) 29 24 L S k n H Q) := W_if_ne (rfl : (pj lw).1 29 13 = some (.ifCond .ne 11, 3, 0)) rfl
theorem w29_16 {x : Nat} : W (pj lw) 29 16 (.val (.ref x) :: L) S k n H Q ↔ W (pj lw) 29 17 (.val (.ref x) :: L) (.ref x :: S) k n H Q := W_s (rfl : (pj lw).1 29 16 = some (.aload_n 0, 1, 0)) rfl rfl rfl
theorem w29_17 {a : Nat} : W (pj lw) 29 17 L (.ref a :: S) k n H Q ↔ (isO H a = true ∧ W (pj lw) 29 20 L (fld H a 18 :: S) k n H Q) := W_getf (rfl : (pj lw).1 29 17 = some (.getfield 46, 3, 18))
theorem w29_20 {x : Int32} {l0 l1 l2 : Slot} : W (pj lw) 29 20 (l0 :: l1 :: l2 :: .val (.int x) :: L) S k n H Q ↔ W (pj lw) 29 21 (l0 :: l1 :: l2 :: .val (.int x) :: L) (.int x :: S) k n H Q := W_s (rfl : (pj lw).1 29 20 = some (.iload_n 3, 1, 0)) rfl rfl rfl
theorem w29_21 : W (pj lw) 29 21 L S k n H Q ↔ W (pj lw) 29 22 L (.int (-1) :: S) k n H Q := W_s (rfl : (pj lw).1 29 21 = some (.iconst (-1), 1, 0)) rfl rfl rfl
theorem w29_22 {x i : Int32} {a : Nat} : W (pj lw) 29 22 L (.int x :: .int i :: .ref a :: S) k n H Q ↔ (inAw H a .int i = true ∧ W (pj lw) 29 23 L S k n (wr H a i.toNatClampNeg (.int x)) Q) := W_iastore (rfl : (pj lw).1 29 22 = some (.iastore, 1, 0))
theorem w29_23 : W (pj lw) 29 23 L [] k n H Q ↔ Q none H := W_r (rfl : (pj lw).1 29 23 = some (.return_, 1, 0)) rfl
theorem w29_24 : W (pj lw) 29 24 L S k n H Q ↔ W (pj lw) 29 25 L (.int (-1) :: S) k n H Q := W_s (rfl : (pj lw).1 29 24 = some (.iconst (-1), 1, 0)) rfl rfl rfl
theorem w29_25 {x : Int32} {l0 l1 l2 l3 : Slot} : W (pj lw) 29 25 (l0 :: l1 :: l2 :: l3 :: .unset :: L) (.int x :: S) k n H Q ↔ W (pj lw) 29 27 (l0 :: l1 :: l2 :: l3 :: .val (.int x) :: L) S k n H Q := W_ist (rfl : (pj lw).1 29 25 = some (.istore 4, 2, 0)) rfl rfl
theorem w29_27 : W (pj lw) 29 27 L S k n H Q ↔ W (pj lw) 29 28 L (.int 0 :: S) k n H Q := W_s (rfl : (pj lw).1 29 27 = some (.iconst 0, 1, 0)) rfl rfl rfl
theorem w29_28 {x : Int32} {l0 l1 l2 l3 l4 : Slot} : W (pj lw) 29 28 (l0 :: l1 :: l2 :: l3 :: l4 :: .unset :: L) (.int x :: S) k n H Q ↔ W (pj lw) 29 30 (l0 :: l1 :: l2 :: l3 :: l4 :: .val (.int x) :: L) S k n H Q := W_ist (rfl : (pj lw).1 29 28 = some (.istore 5, 2, 0)) rfl rfl
theorem w29_30 : W (pj lw) 29 30 L S k n H Q ↔ W (pj lw) 29 31 L (.int 0 :: S) k n H Q := W_s (rfl : (pj lw).1 29 30 = some (.iconst 0, 1, 0)) rfl rfl rfl
theorem w29_31 {x : Int32} {l0 l1 l2 l3 l4 l5 : Slot} : W (pj lw) 29 31 (l0 :: l1 :: l2 :: l3 :: l4 :: l5 :: .unset :: L) (.int x :: S) k n H Q ↔ W (pj lw) 29 33 (l0 :: l1 :: l2 :: l3 :: l4 :: l5 :: .val (.int x) :: L) S k n H Q := W_ist (rfl : (pj lw).1 29 31 = some (.istore 6, 2, 0)) rfl rfl
theorem w29_33 {x : Int32} {l0 l1 l2 l3 l4 l5 : Slot} : W (pj lw) 29 33 (l0 :: l1 :: l2 :: l3 :: l4 :: l5 :: .val (.int x) :: L) S k n H Q ↔ W (pj lw) 29 35 (l0 :: l1 :: l2 :: l3 :: l4 :: l5 :: .val (.int x) :: L) (.int x :: S) k n H Q := W_s (rfl : (pj lw).1 29 33 = some (.iload 6, 2, 0)) rfl rfl rfl
theorem w29_35 {x : Nat} : W (pj lw) 29 35 (.val (.ref x) :: L) S k n H Q ↔ W (pj lw) 29 36 (.val (.ref x) :: L) (.ref x :: S) k n H Q := W_s (rfl : (pj lw).1 29 35 = some (.aload_n 0, 1, 0)) rfl rfl rfl
theorem w29_36 {a : Nat} : W (pj lw) 29 36 L (.ref a :: S) k n H Q ↔ (isO H a = true ∧ W (pj lw) 29 39 L (fld H a 0 :: S) k n H Q) := W_getf (rfl : (pj lw).1 29 36 = some (.getfield 53, 3, 0))
theorem w29_39 {x y : Int32} : W (pj lw) 29 39 L (.int y :: .int x :: S) k n H Q ↔ (if x < y then W (pj lw) 29 42 L S k n H Q else W (pj lw) 29 79 L S k n H Q) := W_icmp_ge (rfl : (pj lw).1 29 39 = some (.if_icmp .ge 40, 3, 0)) rfl
theorem w29_42 {x : Nat} : W (pj lw) 29 42 (.val (.ref x) :: L) S k n H Q ↔ W (pj lw) 29 43 (.val (.ref x) :: L) (.ref x :: S) k n H Q := W_s (rfl : (pj lw).1 29 42 = some (.aload_n 0, 1, 0)) rfl rfl rfl
theorem w29_43 {x : Int32} {l0 l1 l2 l3 l4 l5 : Slot} : W (pj lw) 29 43 (l0 :: l1 :: l2 :: l3 :: l4 :: l5 :: .val (.int x) :: L) S k n H Q ↔ W (pj lw) 29 45 (l0 :: l1 :: l2 :: l3 :: l4 :: l5 :: .val (.int x) :: L) (.int x :: S) k n H Q := W_s (rfl : (pj lw).1 29 43 = some (.iload 6, 2, 0)) rfl rfl rfl
theorem w29_45 {x : Int32} {l0 : Slot} : W (pj lw) 29 45 (l0 :: .val (.int x) :: L) S k n H Q ↔ W (pj lw) 29 46 (l0 :: .val (.int x) :: L) (.int x :: S) k n H Q := W_s (rfl : (pj lw).1 29 45 = some (.iload_n 1, 1, 0)) rfl rfl rfl
theorem w29_46 {x : Int32} {l0 l1 : Slot} : W (pj lw) 29 46 (l0 :: l1 :: .val (.int x) :: L) S k n H Q ↔ W (pj lw) 29 47 (l0 :: l1 :: .val (.int x) :: L) (.int x :: S) k n H Q := W_s (rfl : (pj lw).1 29 46 = some (.iload_n 2, 1, 0)) rfl rfl rfl
theorem w29_47 {a : Nat} {x0 : Int32} {x1 : Int32} {x2 : Int32} : W (pj lw) 29 47 L (.int x2 :: .int x1 :: .int x0 :: .ref a :: S) k n H Q ↔ ((isO H a = true ∧ cs S + (10 + 11) + 0 ≤ 28) ∧ Cl (pj lw) 30 [.ref a, .int x0, .int x1, .int x2] H (fun v H => W (pj lw) 29 50 L (v.toList ++ S) k n H Q)) := W_inst (as := [.int x0, .int x1, .int x2]) (rfl : (pj lw).1 29 47 = some (.invokevirtual 121, 3, 30)) rfl rfl rfl (Nat.le_of_ble_eq_true rfl) (Nat.le_of_ble_eq_true rfl) ⟨rfl, rfl⟩
theorem w29_50i {y : Int32} {x : Int32} {l0 l1 l2 l3 l4 l5 l6 : Slot} : W (pj lw) 29 50 (l0 :: l1 :: l2 :: l3 :: l4 :: l5 :: l6 :: .val (.int y) :: L) (.int x :: S) k n H Q ↔ W (pj lw) 29 52 (l0 :: l1 :: l2 :: l3 :: l4 :: l5 :: l6 :: .val (.int x) :: L) S k n H Q := W_ist (rfl : (pj lw).1 29 50 = some (.istore 7, 2, 0)) rfl rfl
theorem w29_50 {x : Int32} {l0 l1 l2 l3 l4 l5 l6 : Slot} : W (pj lw) 29 50 (l0 :: l1 :: l2 :: l3 :: l4 :: l5 :: l6 :: .unset :: L) (.int x :: S) k n H Q ↔ W (pj lw) 29 52 (l0 :: l1 :: l2 :: l3 :: l4 :: l5 :: l6 :: .val (.int x) :: L) S k n H Q := W_ist (rfl : (pj lw).1 29 50 = some (.istore 7, 2, 0)) rfl rfl
theorem w29_52 {x : Int32} {l0 l1 l2 l3 : Slot} : W (pj lw) 29 52 (l0 :: l1 :: l2 :: l3 :: .val (.int x) :: L) S k n H Q ↔ W (pj lw) 29 54 (l0 :: l1 :: l2 :: l3 :: .val (.int x) :: L) (.int x :: S) k n H Q := W_s (rfl : (pj lw).1 29 52 = some (.iload 4, 2, 0)) rfl rfl rfl
theorem w29_54 : W (pj lw) 29 54 L S k n H Q ↔ W (pj lw) 29 55 L (.int (-1) :: S) k n H Q := W_s (rfl : (pj lw).1 29 54 = some (.iconst (-1), 1, 0)) rfl rfl rfl
theorem w29_55 {x y : Int32} : W (pj lw) 29 55 L (.int y :: .int x :: S) k n H Q ↔ (if x = y then W (pj lw) 29 65 L S k n H Q else W (pj lw) 29 58 L S k n H Q) := W_icmp_eq (rfl : (pj lw).1 29 55 = some (.if_icmp .eq 10, 3, 0)) rfl
theorem w29_58 {x : Int32} {l0 l1 l2 l3 l4 l5 l6 : Slot} : W (pj lw) 29 58 (l0 :: l1 :: l2 :: l3 :: l4 :: l5 :: l6 :: .val (.int x) :: L) S k n H Q ↔ W (pj lw) 29 60 (l0 :: l1 :: l2 :: l3 :: l4 :: l5 :: l6 :: .val (.int x) :: L) (.int x :: S) k n H Q := W_s (rfl : (pj lw).1 29 58 = some (.iload 7, 2, 0)) rfl rfl rfl
theorem w29_60 {x : Int32} {l0 l1 l2 l3 l4 : Slot} : W (pj lw) 29 60 (l0 :: l1 :: l2 :: l3 :: l4 :: .val (.int x) :: L) S k n H Q ↔ W (pj lw) 29 62 (l0 :: l1 :: l2 :: l3 :: l4 :: .val (.int x) :: L) (.int x :: S) k n H Q := W_s (rfl : (pj lw).1 29 60 = some (.iload 5, 2, 0)) rfl rfl rfl
theorem w29_62 {x y : Int32} : W (pj lw) 29 62 L (.int y :: .int x :: S) k n H Q ↔ (if x < y then W (pj lw) 29 65 L S k n H Q else W (pj lw) 29 73 L S k n H Q) := W_icmp_ge (rfl : (pj lw).1 29 62 = some (.if_icmp .ge 11, 3, 0)) rfl
theorem w29_65 {x : Int32} {l0 l1 l2 l3 l4 l5 : Slot} : W (pj lw) 29 65 (l0 :: l1 :: l2 :: l3 :: l4 :: l5 :: .val (.int x) :: L) S k n H Q ↔ W (pj lw) 29 67 (l0 :: l1 :: l2 :: l3 :: l4 :: l5 :: .val (.int x) :: L) (.int x :: S) k n H Q := W_s (rfl : (pj lw).1 29 65 = some (.iload 6, 2, 0)) rfl rfl rfl
theorem w29_67i {y : Int32} {x : Int32} {l0 l1 l2 l3 : Slot} : W (pj lw) 29 67 (l0 :: l1 :: l2 :: l3 :: .val (.int y) :: L) (.int x :: S) k n H Q ↔ W (pj lw) 29 69 (l0 :: l1 :: l2 :: l3 :: .val (.int x) :: L) S k n H Q := W_ist (rfl : (pj lw).1 29 67 = some (.istore 4, 2, 0)) rfl rfl
theorem w29_69 {x : Int32} {l0 l1 l2 l3 l4 l5 l6 : Slot} : W (pj lw) 29 69 (l0 :: l1 :: l2 :: l3 :: l4 :: l5 :: l6 :: .val (.int x) :: L) S k n H Q ↔ W (pj lw) 29 71 (l0 :: l1 :: l2 :: l3 :: l4 :: l5 :: l6 :: .val (.int x) :: L) (.int x :: S) k n H Q := W_s (rfl : (pj lw).1 29 69 = some (.iload 7, 2, 0)) rfl rfl rfl
theorem w29_71i {y : Int32} {x : Int32} {l0 l1 l2 l3 l4 : Slot} : W (pj lw) 29 71 (l0 :: l1 :: l2 :: l3 :: l4 :: .val (.int y) :: L) (.int x :: S) k n H Q ↔ W (pj lw) 29 73 (l0 :: l1 :: l2 :: l3 :: l4 :: .val (.int x) :: L) S k n H Q := W_ist (rfl : (pj lw).1 29 71 = some (.istore 5, 2, 0)) rfl rfl
theorem w29_73 {x : Int32} {l0 l1 l2 l3 l4 l5 : Slot} : W (pj lw) 29 73 (l0 :: l1 :: l2 :: l3 :: l4 :: l5 :: .val (.int x) :: L) S k n H Q ↔ W (pj lw) 29 76 (l0 :: l1 :: l2 :: l3 :: l4 :: l5 :: .val (.int (x + 1)) :: L) S k n H Q := W_s (rfl : (pj lw).1 29 73 = some (.iinc 6 1, 3, 0)) rfl rfl rfl
theorem w29_76 : W (pj lw) 29 76 L S k n H Q ↔ W (pj lw) 29 33 L S k n H Q := W_goto (rfl : (pj lw).1 29 76 = some (.goto (-43), 3, 0)) rfl
theorem w29_79 {x : Nat} : W (pj lw) 29 79 (.val (.ref x) :: L) S k n H Q ↔ W (pj lw) 29 80 (.val (.ref x) :: L) (.ref x :: S) k n H Q := W_s (rfl : (pj lw).1 29 79 = some (.aload_n 0, 1, 0)) rfl rfl rfl
theorem w29_80 {a : Nat} : W (pj lw) 29 80 L (.ref a :: S) k n H Q ↔ (isO H a = true ∧ W (pj lw) 29 83 L (fld H a 18 :: S) k n H Q) := W_getf (rfl : (pj lw).1 29 80 = some (.getfield 46, 3, 18))
theorem w29_83 {x : Int32} {l0 l1 l2 : Slot} : W (pj lw) 29 83 (l0 :: l1 :: l2 :: .val (.int x) :: L) S k n H Q ↔ W (pj lw) 29 84 (l0 :: l1 :: l2 :: .val (.int x) :: L) (.int x :: S) k n H Q := W_s (rfl : (pj lw).1 29 83 = some (.iload_n 3, 1, 0)) rfl rfl rfl
theorem w29_84 {i : Int32} {a : Nat} : W (pj lw) 29 84 L (.int i :: .ref a :: S) k n H Q ↔ (inA H a .int i = true ∧ W (pj lw) 29 85 L (elt H a i :: S) k n H Q) := W_iaload (rfl : (pj lw).1 29 84 = some (.iaload, 1, 0))
theorem w29_85i {y : Int32} {x : Int32} {l0 l1 l2 l3 l4 l5 : Slot} : W (pj lw) 29 85 (l0 :: l1 :: l2 :: l3 :: l4 :: l5 :: .val (.int y) :: L) (.int x :: S) k n H Q ↔ W (pj lw) 29 87 (l0 :: l1 :: l2 :: l3 :: l4 :: l5 :: .val (.int x) :: L) S k n H Q := W_ist (rfl : (pj lw).1 29 85 = some (.istore 6, 2, 0)) rfl rfl
theorem w29_87 {x : Int32} {l0 l1 l2 l3 l4 l5 : Slot} : W (pj lw) 29 87 (l0 :: l1 :: l2 :: l3 :: l4 :: l5 :: .val (.int x) :: L) S k n H Q ↔ W (pj lw) 29 89 (l0 :: l1 :: l2 :: l3 :: l4 :: l5 :: .val (.int x) :: L) (.int x :: S) k n H Q := W_s (rfl : (pj lw).1 29 87 = some (.iload 6, 2, 0)) rfl rfl rfl
theorem w29_89 {x : Int32} : W (pj lw) 29 89 L (.int x :: S) k n H Q ↔ (if x < 0 then W (pj lw) 29 122 L S k n H Q else W (pj lw) 29 92 L S k n H Q) := W_if_lt (rfl : (pj lw).1 29 89 = some (.ifCond .lt 33, 3, 0)) rfl
theorem w29_92 {x : Int32} {l0 l1 l2 l3 l4 l5 : Slot} : W (pj lw) 29 92 (l0 :: l1 :: l2 :: l3 :: l4 :: l5 :: .val (.int x) :: L) S k n H Q ↔ W (pj lw) 29 94 (l0 :: l1 :: l2 :: l3 :: l4 :: l5 :: .val (.int x) :: L) (.int x :: S) k n H Q := W_s (rfl : (pj lw).1 29 92 = some (.iload 6, 2, 0)) rfl rfl rfl
theorem w29_94 {x : Nat} : W (pj lw) 29 94 (.val (.ref x) :: L) S k n H Q ↔ W (pj lw) 29 95 (.val (.ref x) :: L) (.ref x :: S) k n H Q := W_s (rfl : (pj lw).1 29 94 = some (.aload_n 0, 1, 0)) rfl rfl rfl
theorem w29_95 {a : Nat} : W (pj lw) 29 95 L (.ref a :: S) k n H Q ↔ (isO H a = true ∧ W (pj lw) 29 98 L (fld H a 0 :: S) k n H Q) := W_getf (rfl : (pj lw).1 29 95 = some (.getfield 53, 3, 0))
theorem w29_98 {x y : Int32} : W (pj lw) 29 98 L (.int y :: .int x :: S) k n H Q ↔ (if x < y then W (pj lw) 29 101 L S k n H Q else W (pj lw) 29 122 L S k n H Q) := W_icmp_ge (rfl : (pj lw).1 29 98 = some (.if_icmp .ge 24, 3, 0)) rfl
theorem w29_101 {x : Nat} : W (pj lw) 29 101 (.val (.ref x) :: L) S k n H Q ↔ W (pj lw) 29 102 (.val (.ref x) :: L) (.ref x :: S) k n H Q := W_s (rfl : (pj lw).1 29 101 = some (.aload_n 0, 1, 0)) rfl rfl rfl
theorem w29_102 {x : Int32} {l0 l1 l2 l3 l4 l5 : Slot} : W (pj lw) 29 102 (l0 :: l1 :: l2 :: l3 :: l4 :: l5 :: .val (.int x) :: L) S k n H Q ↔ W (pj lw) 29 104 (l0 :: l1 :: l2 :: l3 :: l4 :: l5 :: .val (.int x) :: L) (.int x :: S) k n H Q := W_s (rfl : (pj lw).1 29 102 = some (.iload 6, 2, 0)) rfl rfl rfl
theorem w29_104 {x : Int32} {l0 : Slot} : W (pj lw) 29 104 (l0 :: .val (.int x) :: L) S k n H Q ↔ W (pj lw) 29 105 (l0 :: .val (.int x) :: L) (.int x :: S) k n H Q := W_s (rfl : (pj lw).1 29 104 = some (.iload_n 1, 1, 0)) rfl rfl rfl
theorem w29_105 {x : Int32} {l0 l1 : Slot} : W (pj lw) 29 105 (l0 :: l1 :: .val (.int x) :: L) S k n H Q ↔ W (pj lw) 29 106 (l0 :: l1 :: .val (.int x) :: L) (.int x :: S) k n H Q := W_s (rfl : (pj lw).1 29 105 = some (.iload_n 2, 1, 0)) rfl rfl rfl
theorem w29_106 {a : Nat} {x0 : Int32} {x1 : Int32} {x2 : Int32} : W (pj lw) 29 106 L (.int x2 :: .int x1 :: .int x0 :: .ref a :: S) k n H Q ↔ ((isO H a = true ∧ cs S + (10 + 11) + 0 ≤ 28) ∧ Cl (pj lw) 30 [.ref a, .int x0, .int x1, .int x2] H (fun v H => W (pj lw) 29 109 L (v.toList ++ S) k n H Q)) := W_inst (as := [.int x0, .int x1, .int x2]) (rfl : (pj lw).1 29 106 = some (.invokevirtual 121, 3, 30)) rfl rfl rfl (Nat.le_of_ble_eq_true rfl) (Nat.le_of_ble_eq_true rfl) ⟨rfl, rfl⟩
theorem w29_109i {y : Int32} {x : Int32} {l0 l1 l2 l3 l4 l5 l6 : Slot} : W (pj lw) 29 109 (l0 :: l1 :: l2 :: l3 :: l4 :: l5 :: l6 :: .val (.int y) :: L) (.int x :: S) k n H Q ↔ W (pj lw) 29 111 (l0 :: l1 :: l2 :: l3 :: l4 :: l5 :: l6 :: .val (.int x) :: L) S k n H Q := W_ist (rfl : (pj lw).1 29 109 = some (.istore 7, 2, 0)) rfl rfl
theorem w29_109 {x : Int32} {l0 l1 l2 l3 l4 l5 l6 : Slot} : W (pj lw) 29 109 (l0 :: l1 :: l2 :: l3 :: l4 :: l5 :: l6 :: .unset :: L) (.int x :: S) k n H Q ↔ W (pj lw) 29 111 (l0 :: l1 :: l2 :: l3 :: l4 :: l5 :: l6 :: .val (.int x) :: L) S k n H Q := W_ist (rfl : (pj lw).1 29 109 = some (.istore 7, 2, 0)) rfl rfl
theorem w29_111 {x : Int32} {l0 l1 l2 l3 l4 l5 l6 : Slot} : W (pj lw) 29 111 (l0 :: l1 :: l2 :: l3 :: l4 :: l5 :: l6 :: .val (.int x) :: L) S k n H Q ↔ W (pj lw) 29 113 (l0 :: l1 :: l2 :: l3 :: l4 :: l5 :: l6 :: .val (.int x) :: L) (.int x :: S) k n H Q := W_s (rfl : (pj lw).1 29 111 = some (.iload 7, 2, 0)) rfl rfl rfl
theorem w29_113 {x : Int32} {l0 l1 l2 l3 l4 : Slot} : W (pj lw) 29 113 (l0 :: l1 :: l2 :: l3 :: l4 :: .val (.int x) :: L) S k n H Q ↔ W (pj lw) 29 115 (l0 :: l1 :: l2 :: l3 :: l4 :: .val (.int x) :: L) (.int x :: S) k n H Q := W_s (rfl : (pj lw).1 29 113 = some (.iload 5, 2, 0)) rfl rfl rfl
theorem w29_115 {x y : Int32} : W (pj lw) 29 115 L (.int y :: .int x :: S) k n H Q ↔ (if x = y then W (pj lw) 29 118 L S k n H Q else W (pj lw) 29 122 L S k n H Q) := W_icmp_ne (rfl : (pj lw).1 29 115 = some (.if_icmp .ne 7, 3, 0)) rfl
theorem w29_118 {x : Int32} {l0 l1 l2 l3 l4 l5 : Slot} : W (pj lw) 29 118 (l0 :: l1 :: l2 :: l3 :: l4 :: l5 :: .val (.int x) :: L) S k n H Q ↔ W (pj lw) 29 120 (l0 :: l1 :: l2 :: l3 :: l4 :: l5 :: .val (.int x) :: L) (.int x :: S) k n H Q := W_s (rfl : (pj lw).1 29 118 = some (.iload 6, 2, 0)) rfl rfl rfl
theorem w29_120i {y : Int32} {x : Int32} {l0 l1 l2 l3 : Slot} : W (pj lw) 29 120 (l0 :: l1 :: l2 :: l3 :: .val (.int y) :: L) (.int x :: S) k n H Q ↔ W (pj lw) 29 122 (l0 :: l1 :: l2 :: l3 :: .val (.int x) :: L) S k n H Q := W_ist (rfl : (pj lw).1 29 120 = some (.istore 4, 2, 0)) rfl rfl
theorem w29_122 {x : Nat} : W (pj lw) 29 122 (.val (.ref x) :: L) S k n H Q ↔ W (pj lw) 29 123 (.val (.ref x) :: L) (.ref x :: S) k n H Q := W_s (rfl : (pj lw).1 29 122 = some (.aload_n 0, 1, 0)) rfl rfl rfl
theorem w29_123 {a : Nat} : W (pj lw) 29 123 L (.ref a :: S) k n H Q ↔ (isO H a = true ∧ W (pj lw) 29 126 L (fld H a 18 :: S) k n H Q) := W_getf (rfl : (pj lw).1 29 123 = some (.getfield 46, 3, 18))
theorem w29_126 {x : Int32} {l0 l1 l2 : Slot} : W (pj lw) 29 126 (l0 :: l1 :: l2 :: .val (.int x) :: L) S k n H Q ↔ W (pj lw) 29 127 (l0 :: l1 :: l2 :: .val (.int x) :: L) (.int x :: S) k n H Q := W_s (rfl : (pj lw).1 29 126 = some (.iload_n 3, 1, 0)) rfl rfl rfl
theorem w29_127 {x : Int32} {l0 l1 l2 l3 : Slot} : W (pj lw) 29 127 (l0 :: l1 :: l2 :: l3 :: .val (.int x) :: L) S k n H Q ↔ W (pj lw) 29 129 (l0 :: l1 :: l2 :: l3 :: .val (.int x) :: L) (.int x :: S) k n H Q := W_s (rfl : (pj lw).1 29 127 = some (.iload 4, 2, 0)) rfl rfl rfl
theorem w29_129 {x i : Int32} {a : Nat} : W (pj lw) 29 129 L (.int x :: .int i :: .ref a :: S) k n H Q ↔ (inAw H a .int i = true ∧ W (pj lw) 29 130 L S k n (wr H a i.toNatClampNeg (.int x)) Q) := W_iastore (rfl : (pj lw).1 29 129 = some (.iastore, 1, 0))
theorem w29_130 : W (pj lw) 29 130 L [] k n H Q ↔ Q none H := W_r (rfl : (pj lw).1 29 130 = some (.return_, 1, 0)) rfl
theorem c30 {x0 : Nat} {x1 : Int32} {x2 : Int32} {x3 : Int32} : Cl (pj lw) 30 [.ref x0, .int x1, .int x2, .int x3] H Q ↔ W (pj lw) 30 0 [.val (.ref x0), .val (.int x1), .val (.int x2), .val (.int x3), .unset, .unset, .unset, .unset, .unset, .unset] [] 0 0 H Q := cl_unf rfl
theorem w30_0 {x : Nat} : W (pj lw) 30 0 (.val (.ref x) :: L) S k n H Q ↔ W (pj lw) 30 1 (.val (.ref x) :: L) (.ref x :: S) k n H Q := W_s (rfl : (pj lw).1 30 0 = some (.aload_n 0, 1, 0)) rfl rfl rfl
theorem w30_1 {a : Nat} : W (pj lw) 30 1 L (.ref a :: S) k n H Q ↔ (isO H a = true ∧ W (pj lw) 30 4 L (fld H a 6 :: S) k n H Q) := W_getf (rfl : (pj lw).1 30 1 = some (.getfield 7, 3, 6))
theorem w30_4 {x : Int32} {l0 : Slot} : W (pj lw) 30 4 (l0 :: .val (.int x) :: L) S k n H Q ↔ W (pj lw) 30 5 (l0 :: .val (.int x) :: L) (.int x :: S) k n H Q := W_s (rfl : (pj lw).1 30 4 = some (.iload_n 1, 1, 0)) rfl rfl rfl
theorem w30_5 {i : Int32} {a : Nat} : W (pj lw) 30 5 L (.int i :: .ref a :: S) k n H Q ↔ (inA H a .int i = true ∧ W (pj lw) 30 6 L (elt H a i :: S) k n H Q) := W_iaload (rfl : (pj lw).1 30 5 = some (.iaload, 1, 0))
theorem w30_6 {x : Int32} {l0 l1 l2 l3 : Slot} : W (pj lw) 30 6 (l0 :: l1 :: l2 :: l3 :: .unset :: L) (.int x :: S) k n H Q ↔ W (pj lw) 30 8 (l0 :: l1 :: l2 :: l3 :: .val (.int x) :: L) S k n H Q := W_ist (rfl : (pj lw).1 30 6 = some (.istore 4, 2, 0)) rfl rfl
theorem w30_8 {x : Nat} : W (pj lw) 30 8 (.val (.ref x) :: L) S k n H Q ↔ W (pj lw) 30 9 (.val (.ref x) :: L) (.ref x :: S) k n H Q := W_s (rfl : (pj lw).1 30 8 = some (.aload_n 0, 1, 0)) rfl rfl rfl
theorem w30_9 {a : Nat} : W (pj lw) 30 9 L (.ref a :: S) k n H Q ↔ (isO H a = true ∧ W (pj lw) 30 12 L (fld H a 8 :: S) k n H Q) := W_getf (rfl : (pj lw).1 30 9 = some (.getfield 16, 3, 8))
theorem w30_12 {x : Int32} {l0 : Slot} : W (pj lw) 30 12 (l0 :: .val (.int x) :: L) S k n H Q ↔ W (pj lw) 30 13 (l0 :: .val (.int x) :: L) (.int x :: S) k n H Q := W_s (rfl : (pj lw).1 30 12 = some (.iload_n 1, 1, 0)) rfl rfl rfl
theorem w30_13 {i : Int32} {a : Nat} : W (pj lw) 30 13 L (.int i :: .ref a :: S) k n H Q ↔ (inA H a .int i = true ∧ W (pj lw) 30 14 L (elt H a i :: S) k n H Q) := W_iaload (rfl : (pj lw).1 30 13 = some (.iaload, 1, 0))
theorem w30_14 {x : Int32} {l0 l1 l2 l3 l4 : Slot} : W (pj lw) 30 14 (l0 :: l1 :: l2 :: l3 :: l4 :: .unset :: L) (.int x :: S) k n H Q ↔ W (pj lw) 30 16 (l0 :: l1 :: l2 :: l3 :: l4 :: .val (.int x) :: L) S k n H Q := W_ist (rfl : (pj lw).1 30 14 = some (.istore 5, 2, 0)) rfl rfl
theorem w30_16 {x : Nat} : W (pj lw) 30 16 (.val (.ref x) :: L) S k n H Q ↔ W (pj lw) 30 17 (.val (.ref x) :: L) (.ref x :: S) k n H Q := W_s (rfl : (pj lw).1 30 16 = some (.aload_n 0, 1, 0)) rfl rfl rfl
theorem w30_17 {a : Nat} : W (pj lw) 30 17 L (.ref a :: S) k n H Q ↔ (isO H a = true ∧ W (pj lw) 30 20 L (fld H a 7 :: S) k n H Q) := W_getf (rfl : (pj lw).1 30 17 = some (.getfield 13, 3, 7))
theorem w30_20 {x : Int32} {l0 : Slot} : W (pj lw) 30 20 (l0 :: .val (.int x) :: L) S k n H Q ↔ W (pj lw) 30 21 (l0 :: .val (.int x) :: L) (.int x :: S) k n H Q := W_s (rfl : (pj lw).1 30 20 = some (.iload_n 1, 1, 0)) rfl rfl rfl
theorem w30_21 {i : Int32} {a : Nat} : W (pj lw) 30 21 L (.int i :: .ref a :: S) k n H Q ↔ (inA H a .int i = true ∧ W (pj lw) 30 22 L (elt H a i :: S) k n H Q) := W_iaload (rfl : (pj lw).1 30 21 = some (.iaload, 1, 0))
theorem w30_22 : W (pj lw) 30 22 L S k n H Q ↔ W (pj lw) 30 23 L (.int 3 :: S) k n H Q := W_s (rfl : (pj lw).1 30 22 = some (.iconst 3, 1, 0)) rfl rfl rfl
theorem w30_23 {x y : Int32} : W (pj lw) 30 23 L (.int y :: .int x :: S) k n H Q ↔ (if x = y then W (pj lw) 30 26 L S k n H Q else W (pj lw) 30 34 L S k n H Q) := W_icmp_ne (rfl : (pj lw).1 30 23 = some (.if_icmp .ne 11, 3, 0)) rfl
theorem w30_26 {x : Int32} {l0 l1 l2 l3 : Slot} : W (pj lw) 30 26 (l0 :: l1 :: l2 :: l3 :: .val (.int x) :: L) S k n H Q ↔ W (pj lw) 30 28 (l0 :: l1 :: l2 :: l3 :: .val (.int x) :: L) (.int x :: S) k n H Q := W_s (rfl : (pj lw).1 30 26 = some (.iload 4, 2, 0)) rfl rfl rfl
theorem w30_28 {x : Int32} {l0 l1 l2 l3 l4 : Slot} : W (pj lw) 30 28 (l0 :: l1 :: l2 :: l3 :: l4 :: .val (.int x) :: L) S k n H Q ↔ W (pj lw) 30 30 (l0 :: l1 :: l2 :: l3 :: l4 :: .val (.int x) :: L) (.int x :: S) k n H Q := W_s (rfl : (pj lw).1 30 28 = some (.iload 5, 2, 0)) rfl rfl rfl
theorem w30_30 {x y : Int32} : W (pj lw) 30 30 L (.int y :: .int x :: S) k n H Q ↔ W (pj lw) 30 31 L (.int (x + y) :: S) k n H Q := W_s (rfl : (pj lw).1 30 30 = some (.iadd, 1, 0)) rfl rfl rfl
theorem w30_31 : W (pj lw) 30 31 L S k n H Q ↔ W (pj lw) 30 36 L S k n H Q := W_goto (rfl : (pj lw).1 30 31 = some (.goto 5, 3, 0)) rfl
theorem w30_34 {x : Int32} {l0 l1 l2 l3 : Slot} : W (pj lw) 30 34 (l0 :: l1 :: l2 :: l3 :: .val (.int x) :: L) S k n H Q ↔ W (pj lw) 30 36 (l0 :: l1 :: l2 :: l3 :: .val (.int x) :: L) (.int x :: S) k n H Q := W_s (rfl : (pj lw).1 30 34 = some (.iload 4, 2, 0)) rfl rfl rfl
theorem w30_36 {x : Int32} {l0 l1 l2 l3 l4 l5 : Slot} : W (pj lw) 30 36 (l0 :: l1 :: l2 :: l3 :: l4 :: l5 :: .unset :: L) (.int x :: S) k n H Q ↔ W (pj lw) 30 38 (l0 :: l1 :: l2 :: l3 :: l4 :: l5 :: .val (.int x) :: L) S k n H Q := W_ist (rfl : (pj lw).1 30 36 = some (.istore 6, 2, 0)) rfl rfl
theorem w30_38 {x : Nat} : W (pj lw) 30 38 (.val (.ref x) :: L) S k n H Q ↔ W (pj lw) 30 39 (.val (.ref x) :: L) (.ref x :: S) k n H Q := W_s (rfl : (pj lw).1 30 38 = some (.aload_n 0, 1, 0)) rfl rfl rfl
theorem w30_39 {a : Nat} : W (pj lw) 30 39 L (.ref a :: S) k n H Q ↔ (isO H a = true ∧ W (pj lw) 30 42 L (fld H a 1 :: S) k n H Q) := W_getf (rfl : (pj lw).1 30 39 = some (.getfield 57, 3, 1))
theorem w30_42 : W (pj lw) 30 42 L S k n H Q ↔ W (pj lw) 30 43 L (.int 1 :: S) k n H Q := W_s (rfl : (pj lw).1 30 42 = some (.iconst 1, 1, 0)) rfl rfl rfl
theorem w30_43 {x y : Int32} : W (pj lw) 30 43 L (.int y :: .int x :: S) k n H Q ↔ W (pj lw) 30 44 L (.int (x - y) :: S) k n H Q := W_s (rfl : (pj lw).1 30 43 = some (.isub, 1, 0)) rfl rfl rfl
theorem w30_44 {x : Int32} {l0 l1 l2 l3 l4 l5 l6 : Slot} : W (pj lw) 30 44 (l0 :: l1 :: l2 :: l3 :: l4 :: l5 :: l6 :: .unset :: L) (.int x :: S) k n H Q ↔ W (pj lw) 30 46 (l0 :: l1 :: l2 :: l3 :: l4 :: l5 :: l6 :: .val (.int x) :: L) S k n H Q := W_ist (rfl : (pj lw).1 30 44 = some (.istore 7, 2, 0)) rfl rfl
theorem w30_46 {x : Int32} {l0 l1 l2 l3 l4 : Slot} : W (pj lw) 30 46 (l0 :: l1 :: l2 :: l3 :: l4 :: .val (.int x) :: L) S k n H Q ↔ W (pj lw) 30 48 (l0 :: l1 :: l2 :: l3 :: l4 :: .val (.int x) :: L) (.int x :: S) k n H Q := W_s (rfl : (pj lw).1 30 46 = some (.iload 5, 2, 0)) rfl rfl rfl
theorem w30_48 : W (pj lw) 30 48 L S k n H Q ↔ W (pj lw) 30 49 L (.int 1 :: S) k n H Q := W_s (rfl : (pj lw).1 30 48 = some (.iconst 1, 1, 0)) rfl rfl rfl
theorem w30_49 {x y : Int32} : W (pj lw) 30 49 L (.int y :: .int x :: S) k n H Q ↔ (if x = y then W (pj lw) 30 52 L S k n H Q else W (pj lw) 30 107 L S k n H Q) := W_icmp_ne (rfl : (pj lw).1 30 49 = some (.if_icmp .ne 58, 3, 0)) rfl
theorem w30_52 {x : Int32} {l0 l1 l2 : Slot} : W (pj lw) 30 52 (l0 :: l1 :: l2 :: .val (.int x) :: L) S k n H Q ↔ W (pj lw) 30 53 (l0 :: l1 :: l2 :: .val (.int x) :: L) (.int x :: S) k n H Q := W_s (rfl : (pj lw).1 30 52 = some (.iload_n 3, 1, 0)) rfl rfl rfl
theorem w30_53 : W (pj lw) 30 53 L S k n H Q ↔ W (pj lw) 30 54 L (.int 1 :: S) k n H Q := W_s (rfl : (pj lw).1 30 53 = some (.iconst 1, 1, 0)) rfl rfl rfl
theorem w30_54 {x y : Int32} : W (pj lw) 30 54 L (.int y :: .int x :: S) k n H Q ↔ (if x = y then W (pj lw) 30 57 L S k n H Q else W (pj lw) 30 72 L S k n H Q) := W_icmp_ne (rfl : (pj lw).1 30 54 = some (.if_icmp .ne 18, 3, 0)) rfl
theorem w30_57 {x : Int32} {l0 l1 : Slot} : W (pj lw) 30 57 (l0 :: l1 :: .val (.int x) :: L) S k n H Q ↔ W (pj lw) 30 58 (l0 :: l1 :: .val (.int x) :: L) (.int x :: S) k n H Q := W_s (rfl : (pj lw).1 30 57 = some (.iload_n 2, 1, 0)) rfl rfl rfl
theorem w30_58 {x : Int32} {l0 l1 l2 l3 l4 l5 : Slot} : W (pj lw) 30 58 (l0 :: l1 :: l2 :: l3 :: l4 :: l5 :: .val (.int x) :: L) S k n H Q ↔ W (pj lw) 30 60 (l0 :: l1 :: l2 :: l3 :: l4 :: l5 :: .val (.int x) :: L) (.int x :: S) k n H Q := W_s (rfl : (pj lw).1 30 58 = some (.iload 6, 2, 0)) rfl rfl rfl
theorem w30_60 {x y : Int32} : W (pj lw) 30 60 L (.int y :: .int x :: S) k n H Q ↔ (if x < y then W (pj lw) 30 72 L S k n H Q else W (pj lw) 30 63 L S k n H Q) := W_icmp_lt (rfl : (pj lw).1 30 60 = some (.if_icmp .lt 12, 3, 0)) rfl
theorem w30_63 {x : Int32} {l0 l1 : Slot} : W (pj lw) 30 63 (l0 :: l1 :: .val (.int x) :: L) S k n H Q ↔ W (pj lw) 30 64 (l0 :: l1 :: .val (.int x) :: L) (.int x :: S) k n H Q := W_s (rfl : (pj lw).1 30 63 = some (.iload_n 2, 1, 0)) rfl rfl rfl
theorem w30_64 {x : Int32} {l0 l1 l2 l3 l4 l5 : Slot} : W (pj lw) 30 64 (l0 :: l1 :: l2 :: l3 :: l4 :: l5 :: .val (.int x) :: L) S k n H Q ↔ W (pj lw) 30 66 (l0 :: l1 :: l2 :: l3 :: l4 :: l5 :: .val (.int x) :: L) (.int x :: S) k n H Q := W_s (rfl : (pj lw).1 30 64 = some (.iload 6, 2, 0)) rfl rfl rfl
theorem w30_66 {x y : Int32} : W (pj lw) 30 66 L (.int y :: .int x :: S) k n H Q ↔ W (pj lw) 30 67 L (.int (x - y) :: S) k n H Q := W_s (rfl : (pj lw).1 30 66 = some (.isub, 1, 0)) rfl rfl rfl
theorem w30_67 {x : Int32} {l0 l1 l2 l3 l4 l5 l6 l7 : Slot} : W (pj lw) 30 67 (l0 :: l1 :: l2 :: l3 :: l4 :: l5 :: l6 :: l7 :: .unset :: L) (.int x :: S) k n H Q ↔ W (pj lw) 30 69 (l0 :: l1 :: l2 :: l3 :: l4 :: l5 :: l6 :: l7 :: .val (.int x) :: L) S k n H Q := W_ist (rfl : (pj lw).1 30 67 = some (.istore 8, 2, 0)) rfl rfl
theorem w30_69 : W (pj lw) 30 69 L S k n H Q ↔ W (pj lw) 30 181 L S k n H Q := W_goto (rfl : (pj lw).1 30 69 = some (.goto 112, 3, 0)) rfl
theorem w30_72 {x : Int32} {l0 l1 l2 : Slot} : W (pj lw) 30 72 (l0 :: l1 :: l2 :: .val (.int x) :: L) S k n H Q ↔ W (pj lw) 30 73 (l0 :: l1 :: l2 :: .val (.int x) :: L) (.int x :: S) k n H Q := W_s (rfl : (pj lw).1 30 72 = some (.iload_n 3, 1, 0)) rfl rfl rfl
theorem w30_73 : W (pj lw) 30 73 L S k n H Q ↔ W (pj lw) 30 74 L (.int (-1) :: S) k n H Q := W_s (rfl : (pj lw).1 30 73 = some (.iconst (-1), 1, 0)) rfl rfl rfl
theorem w30_74 {x y : Int32} : W (pj lw) 30 74 L (.int y :: .int x :: S) k n H Q ↔ (if x = y then W (pj lw) 30 77 L S k n H Q else W (pj lw) 30 92 L S k n H Q) := W_icmp_ne (rfl : (pj lw).1 30 74 = some (.if_icmp .ne 18, 3, 0)) rfl
theorem w30_77 {x : Int32} {l0 l1 l2 l3 l4 l5 l6 : Slot} : W (pj lw) 30 77 (l0 :: l1 :: l2 :: l3 :: l4 :: l5 :: l6 :: .val (.int x) :: L) S k n H Q ↔ W (pj lw) 30 79 (l0 :: l1 :: l2 :: l3 :: l4 :: l5 :: l6 :: .val (.int x) :: L) (.int x :: S) k n H Q := W_s (rfl : (pj lw).1 30 77 = some (.iload 7, 2, 0)) rfl rfl rfl
theorem w30_79 {x : Int32} {l0 l1 l2 l3 l4 l5 : Slot} : W (pj lw) 30 79 (l0 :: l1 :: l2 :: l3 :: l4 :: l5 :: .val (.int x) :: L) S k n H Q ↔ W (pj lw) 30 81 (l0 :: l1 :: l2 :: l3 :: l4 :: l5 :: .val (.int x) :: L) (.int x :: S) k n H Q := W_s (rfl : (pj lw).1 30 79 = some (.iload 6, 2, 0)) rfl rfl rfl
theorem w30_81 {x y : Int32} : W (pj lw) 30 81 L (.int y :: .int x :: S) k n H Q ↔ W (pj lw) 30 82 L (.int (x - y) :: S) k n H Q := W_s (rfl : (pj lw).1 30 81 = some (.isub, 1, 0)) rfl rfl rfl
theorem w30_82 {x : Int32} {l0 l1 l2 l3 l4 l5 l6 : Slot} : W (pj lw) 30 82 (l0 :: l1 :: l2 :: l3 :: l4 :: l5 :: l6 :: .val (.int x) :: L) S k n H Q ↔ W (pj lw) 30 84 (l0 :: l1 :: l2 :: l3 :: l4 :: l5 :: l6 :: .val (.int x) :: L) (.int x :: S) k n H Q := W_s (rfl : (pj lw).1 30 82 = some (.iload 7, 2, 0)) rfl rfl rfl
theorem w30_84 {x : Int32} {l0 l1 : Slot} : W (pj lw) 30 84 (l0 :: l1 :: .val (.int x) :: L) S k n H Q ↔ W (pj lw) 30 85 (l0 :: l1 :: .val (.int x) :: L) (.int x :: S) k n H Q := W_s (rfl : (pj lw).1 30 84 = some (.iload_n 2, 1, 0)) rfl rfl rfl
theorem w30_85 {x y : Int32} : W (pj lw) 30 85 L (.int y :: .int x :: S) k n H Q ↔ W (pj lw) 30 86 L (.int (x - y) :: S) k n H Q := W_s (rfl : (pj lw).1 30 85 = some (.isub, 1, 0)) rfl rfl rfl
theorem w30_86 {x y : Int32} : W (pj lw) 30 86 L (.int y :: .int x :: S) k n H Q ↔ W (pj lw) 30 87 L (.int (x + y) :: S) k n H Q := W_s (rfl : (pj lw).1 30 86 = some (.iadd, 1, 0)) rfl rfl rfl
theorem w30_87 {x : Int32} {l0 l1 l2 l3 l4 l5 l6 l7 : Slot} : W (pj lw) 30 87 (l0 :: l1 :: l2 :: l3 :: l4 :: l5 :: l6 :: l7 :: .unset :: L) (.int x :: S) k n H Q ↔ W (pj lw) 30 89 (l0 :: l1 :: l2 :: l3 :: l4 :: l5 :: l6 :: l7 :: .val (.int x) :: L) S k n H Q := W_ist (rfl : (pj lw).1 30 87 = some (.istore 8, 2, 0)) rfl rfl
theorem w30_89 : W (pj lw) 30 89 L S k n H Q ↔ W (pj lw) 30 181 L S k n H Q := W_goto (rfl : (pj lw).1 30 89 = some (.goto 92, 3, 0)) rfl
theorem w30_92 {x : Int32} {l0 l1 l2 l3 l4 l5 l6 : Slot} : W (pj lw) 30 92 (l0 :: l1 :: l2 :: l3 :: l4 :: l5 :: l6 :: .val (.int x) :: L) S k n H Q ↔ W (pj lw) 30 94 (l0 :: l1 :: l2 :: l3 :: l4 :: l5 :: l6 :: .val (.int x) :: L) (.int x :: S) k n H Q := W_s (rfl : (pj lw).1 30 92 = some (.iload 7, 2, 0)) rfl rfl rfl
theorem w30_94 {x : Int32} {l0 l1 l2 l3 l4 l5 : Slot} : W (pj lw) 30 94 (l0 :: l1 :: l2 :: l3 :: l4 :: l5 :: .val (.int x) :: L) S k n H Q ↔ W (pj lw) 30 96 (l0 :: l1 :: l2 :: l3 :: l4 :: l5 :: .val (.int x) :: L) (.int x :: S) k n H Q := W_s (rfl : (pj lw).1 30 94 = some (.iload 6, 2, 0)) rfl rfl rfl
theorem w30_96 {x y : Int32} : W (pj lw) 30 96 L (.int y :: .int x :: S) k n H Q ↔ W (pj lw) 30 97 L (.int (x - y) :: S) k n H Q := W_s (rfl : (pj lw).1 30 96 = some (.isub, 1, 0)) rfl rfl rfl
theorem w30_97 {x : Int32} {l0 l1 l2 l3 l4 l5 l6 : Slot} : W (pj lw) 30 97 (l0 :: l1 :: l2 :: l3 :: l4 :: l5 :: l6 :: .val (.int x) :: L) S k n H Q ↔ W (pj lw) 30 99 (l0 :: l1 :: l2 :: l3 :: l4 :: l5 :: l6 :: .val (.int x) :: L) (.int x :: S) k n H Q := W_s (rfl : (pj lw).1 30 97 = some (.iload 7, 2, 0)) rfl rfl rfl
theorem w30_99 {x y : Int32} : W (pj lw) 30 99 L (.int y :: .int x :: S) k n H Q ↔ W (pj lw) 30 100 L (.int (x + y) :: S) k n H Q := W_s (rfl : (pj lw).1 30 99 = some (.iadd, 1, 0)) rfl rfl rfl
theorem w30_100 {x : Int32} {l0 l1 : Slot} : W (pj lw) 30 100 (l0 :: l1 :: .val (.int x) :: L) S k n H Q ↔ W (pj lw) 30 101 (l0 :: l1 :: .val (.int x) :: L) (.int x :: S) k n H Q := W_s (rfl : (pj lw).1 30 100 = some (.iload_n 2, 1, 0)) rfl rfl rfl
theorem w30_101 {x y : Int32} : W (pj lw) 30 101 L (.int y :: .int x :: S) k n H Q ↔ W (pj lw) 30 102 L (.int (x + y) :: S) k n H Q := W_s (rfl : (pj lw).1 30 101 = some (.iadd, 1, 0)) rfl rfl rfl
theorem w30_102 {x : Int32} {l0 l1 l2 l3 l4 l5 l6 l7 : Slot} : W (pj lw) 30 102 (l0 :: l1 :: l2 :: l3 :: l4 :: l5 :: l6 :: l7 :: .unset :: L) (.int x :: S) k n H Q ↔ W (pj lw) 30 104 (l0 :: l1 :: l2 :: l3 :: l4 :: l5 :: l6 :: l7 :: .val (.int x) :: L) S k n H Q := W_ist (rfl : (pj lw).1 30 102 = some (.istore 8, 2, 0)) rfl rfl
theorem w30_104 : W (pj lw) 30 104 L S k n H Q ↔ W (pj lw) 30 181 L S k n H Q := W_goto (rfl : (pj lw).1 30 104 = some (.goto 77, 3, 0)) rfl
theorem w30_107 {x : Int32} {l0 l1 l2 l3 l4 : Slot} : W (pj lw) 30 107 (l0 :: l1 :: l2 :: l3 :: l4 :: .val (.int x) :: L) S k n H Q ↔ W (pj lw) 30 109 (l0 :: l1 :: l2 :: l3 :: l4 :: .val (.int x) :: L) (.int x :: S) k n H Q := W_s (rfl : (pj lw).1 30 107 = some (.iload 5, 2, 0)) rfl rfl rfl
theorem w30_109 : W (pj lw) 30 109 L S k n H Q ↔ W (pj lw) 30 110 L (.int (-1) :: S) k n H Q := W_s (rfl : (pj lw).1 30 109 = some (.iconst (-1), 1, 0)) rfl rfl rfl
theorem w30_110 {x y : Int32} : W (pj lw) 30 110 L (.int y :: .int x :: S) k n H Q ↔ (if x = y then W (pj lw) 30 113 L S k n H Q else W (pj lw) 30 162 L S k n H Q) := W_icmp_ne (rfl : (pj lw).1 30 110 = some (.if_icmp .ne 52, 3, 0)) rfl
theorem w30_113 {x : Int32} {l0 l1 l2 : Slot} : W (pj lw) 30 113 (l0 :: l1 :: l2 :: .val (.int x) :: L) S k n H Q ↔ W (pj lw) 30 114 (l0 :: l1 :: l2 :: .val (.int x) :: L) (.int x :: S) k n H Q := W_s (rfl : (pj lw).1 30 113 = some (.iload_n 3, 1, 0)) rfl rfl rfl
theorem w30_114 : W (pj lw) 30 114 L S k n H Q ↔ W (pj lw) 30 115 L (.int (-1) :: S) k n H Q := W_s (rfl : (pj lw).1 30 114 = some (.iconst (-1), 1, 0)) rfl rfl rfl
theorem w30_115 {x y : Int32} : W (pj lw) 30 115 L (.int y :: .int x :: S) k n H Q ↔ (if x = y then W (pj lw) 30 118 L S k n H Q else W (pj lw) 30 133 L S k n H Q) := W_icmp_ne (rfl : (pj lw).1 30 115 = some (.if_icmp .ne 18, 3, 0)) rfl
theorem w30_118 {x : Int32} {l0 l1 : Slot} : W (pj lw) 30 118 (l0 :: l1 :: .val (.int x) :: L) S k n H Q ↔ W (pj lw) 30 119 (l0 :: l1 :: .val (.int x) :: L) (.int x :: S) k n H Q := W_s (rfl : (pj lw).1 30 118 = some (.iload_n 2, 1, 0)) rfl rfl rfl
theorem w30_119 {x : Int32} {l0 l1 l2 l3 l4 l5 : Slot} : W (pj lw) 30 119 (l0 :: l1 :: l2 :: l3 :: l4 :: l5 :: .val (.int x) :: L) S k n H Q ↔ W (pj lw) 30 121 (l0 :: l1 :: l2 :: l3 :: l4 :: l5 :: .val (.int x) :: L) (.int x :: S) k n H Q := W_s (rfl : (pj lw).1 30 119 = some (.iload 6, 2, 0)) rfl rfl rfl
theorem w30_121 {x y : Int32} : W (pj lw) 30 121 L (.int y :: .int x :: S) k n H Q ↔ (if y < x then W (pj lw) 30 133 L S k n H Q else W (pj lw) 30 124 L S k n H Q) := W_icmp_gt (rfl : (pj lw).1 30 121 = some (.if_icmp .gt 12, 3, 0)) rfl
theorem w30_124 {x : Int32} {l0 l1 l2 l3 l4 l5 : Slot} : W (pj lw) 30 124 (l0 :: l1 :: l2 :: l3 :: l4 :: l5 :: .val (.int x) :: L) S k n H Q ↔ W (pj lw) 30 126 (l0 :: l1 :: l2 :: l3 :: l4 :: l5 :: .val (.int x) :: L) (.int x :: S) k n H Q := W_s (rfl : (pj lw).1 30 124 = some (.iload 6, 2, 0)) rfl rfl rfl
theorem w30_126 {x : Int32} {l0 l1 : Slot} : W (pj lw) 30 126 (l0 :: l1 :: .val (.int x) :: L) S k n H Q ↔ W (pj lw) 30 127 (l0 :: l1 :: .val (.int x) :: L) (.int x :: S) k n H Q := W_s (rfl : (pj lw).1 30 126 = some (.iload_n 2, 1, 0)) rfl rfl rfl
theorem w30_127 {x y : Int32} : W (pj lw) 30 127 L (.int y :: .int x :: S) k n H Q ↔ W (pj lw) 30 128 L (.int (x - y) :: S) k n H Q := W_s (rfl : (pj lw).1 30 127 = some (.isub, 1, 0)) rfl rfl rfl
theorem w30_128 {x : Int32} {l0 l1 l2 l3 l4 l5 l6 l7 : Slot} : W (pj lw) 30 128 (l0 :: l1 :: l2 :: l3 :: l4 :: l5 :: l6 :: l7 :: .unset :: L) (.int x :: S) k n H Q ↔ W (pj lw) 30 130 (l0 :: l1 :: l2 :: l3 :: l4 :: l5 :: l6 :: l7 :: .val (.int x) :: L) S k n H Q := W_ist (rfl : (pj lw).1 30 128 = some (.istore 8, 2, 0)) rfl rfl
theorem w30_130 : W (pj lw) 30 130 L S k n H Q ↔ W (pj lw) 30 181 L S k n H Q := W_goto (rfl : (pj lw).1 30 130 = some (.goto 51, 3, 0)) rfl
theorem w30_133 {x : Int32} {l0 l1 l2 : Slot} : W (pj lw) 30 133 (l0 :: l1 :: l2 :: .val (.int x) :: L) S k n H Q ↔ W (pj lw) 30 134 (l0 :: l1 :: l2 :: .val (.int x) :: L) (.int x :: S) k n H Q := W_s (rfl : (pj lw).1 30 133 = some (.iload_n 3, 1, 0)) rfl rfl rfl
theorem w30_134 : W (pj lw) 30 134 L S k n H Q ↔ W (pj lw) 30 135 L (.int 1 :: S) k n H Q := W_s (rfl : (pj lw).1 30 134 = some (.iconst 1, 1, 0)) rfl rfl rfl
theorem w30_135 {x y : Int32} : W (pj lw) 30 135 L (.int y :: .int x :: S) k n H Q ↔ (if x = y then W (pj lw) 30 138 L S k n H Q else W (pj lw) 30 147 L S k n H Q) := W_icmp_ne (rfl : (pj lw).1 30 135 = some (.if_icmp .ne 12, 3, 0)) rfl
theorem w30_138 {x : Int32} {l0 l1 l2 l3 l4 l5 : Slot} : W (pj lw) 30 138 (l0 :: l1 :: l2 :: l3 :: l4 :: l5 :: .val (.int x) :: L) S k n H Q ↔ W (pj lw) 30 140 (l0 :: l1 :: l2 :: l3 :: l4 :: l5 :: .val (.int x) :: L) (.int x :: S) k n H Q := W_s (rfl : (pj lw).1 30 138 = some (.iload 6, 2, 0)) rfl rfl rfl
theorem w30_140 {x : Int32} {l0 l1 : Slot} : W (pj lw) 30 140 (l0 :: l1 :: .val (.int x) :: L) S k n H Q ↔ W (pj lw) 30 141 (l0 :: l1 :: .val (.int x) :: L) (.int x :: S) k n H Q := W_s (rfl : (pj lw).1 30 140 = some (.iload_n 2, 1, 0)) rfl rfl rfl
theorem w30_141 {x y : Int32} : W (pj lw) 30 141 L (.int y :: .int x :: S) k n H Q ↔ W (pj lw) 30 142 L (.int (x + y) :: S) k n H Q := W_s (rfl : (pj lw).1 30 141 = some (.iadd, 1, 0)) rfl rfl rfl
theorem w30_142 {x : Int32} {l0 l1 l2 l3 l4 l5 l6 l7 : Slot} : W (pj lw) 30 142 (l0 :: l1 :: l2 :: l3 :: l4 :: l5 :: l6 :: l7 :: .unset :: L) (.int x :: S) k n H Q ↔ W (pj lw) 30 144 (l0 :: l1 :: l2 :: l3 :: l4 :: l5 :: l6 :: l7 :: .val (.int x) :: L) S k n H Q := W_ist (rfl : (pj lw).1 30 142 = some (.istore 8, 2, 0)) rfl rfl
theorem w30_144 : W (pj lw) 30 144 L S k n H Q ↔ W (pj lw) 30 181 L S k n H Q := W_goto (rfl : (pj lw).1 30 144 = some (.goto 37, 3, 0)) rfl
theorem w30_147 {x : Int32} {l0 l1 l2 l3 l4 l5 : Slot} : W (pj lw) 30 147 (l0 :: l1 :: l2 :: l3 :: l4 :: l5 :: .val (.int x) :: L) S k n H Q ↔ W (pj lw) 30 149 (l0 :: l1 :: l2 :: l3 :: l4 :: l5 :: .val (.int x) :: L) (.int x :: S) k n H Q := W_s (rfl : (pj lw).1 30 147 = some (.iload 6, 2, 0)) rfl rfl rfl
theorem w30_149 {x : Int32} {l0 l1 l2 l3 l4 l5 l6 : Slot} : W (pj lw) 30 149 (l0 :: l1 :: l2 :: l3 :: l4 :: l5 :: l6 :: .val (.int x) :: L) S k n H Q ↔ W (pj lw) 30 151 (l0 :: l1 :: l2 :: l3 :: l4 :: l5 :: l6 :: .val (.int x) :: L) (.int x :: S) k n H Q := W_s (rfl : (pj lw).1 30 149 = some (.iload 7, 2, 0)) rfl rfl rfl
theorem w30_151 {x y : Int32} : W (pj lw) 30 151 L (.int y :: .int x :: S) k n H Q ↔ W (pj lw) 30 152 L (.int (x + y) :: S) k n H Q := W_s (rfl : (pj lw).1 30 151 = some (.iadd, 1, 0)) rfl rfl rfl
theorem w30_152 {x : Int32} {l0 l1 l2 l3 l4 l5 l6 : Slot} : W (pj lw) 30 152 (l0 :: l1 :: l2 :: l3 :: l4 :: l5 :: l6 :: .val (.int x) :: L) S k n H Q ↔ W (pj lw) 30 154 (l0 :: l1 :: l2 :: l3 :: l4 :: l5 :: l6 :: .val (.int x) :: L) (.int x :: S) k n H Q := W_s (rfl : (pj lw).1 30 152 = some (.iload 7, 2, 0)) rfl rfl rfl
theorem w30_154 {x : Int32} {l0 l1 : Slot} : W (pj lw) 30 154 (l0 :: l1 :: .val (.int x) :: L) S k n H Q ↔ W (pj lw) 30 155 (l0 :: l1 :: .val (.int x) :: L) (.int x :: S) k n H Q := W_s (rfl : (pj lw).1 30 154 = some (.iload_n 2, 1, 0)) rfl rfl rfl
theorem w30_155 {x y : Int32} : W (pj lw) 30 155 L (.int y :: .int x :: S) k n H Q ↔ W (pj lw) 30 156 L (.int (x - y) :: S) k n H Q := W_s (rfl : (pj lw).1 30 155 = some (.isub, 1, 0)) rfl rfl rfl
theorem w30_156 {x y : Int32} : W (pj lw) 30 156 L (.int y :: .int x :: S) k n H Q ↔ W (pj lw) 30 157 L (.int (x + y) :: S) k n H Q := W_s (rfl : (pj lw).1 30 156 = some (.iadd, 1, 0)) rfl rfl rfl
theorem w30_157 {x : Int32} {l0 l1 l2 l3 l4 l5 l6 l7 : Slot} : W (pj lw) 30 157 (l0 :: l1 :: l2 :: l3 :: l4 :: l5 :: l6 :: l7 :: .unset :: L) (.int x :: S) k n H Q ↔ W (pj lw) 30 159 (l0 :: l1 :: l2 :: l3 :: l4 :: l5 :: l6 :: l7 :: .val (.int x) :: L) S k n H Q := W_ist (rfl : (pj lw).1 30 157 = some (.istore 8, 2, 0)) rfl rfl
theorem w30_159 : W (pj lw) 30 159 L S k n H Q ↔ W (pj lw) 30 181 L S k n H Q := W_goto (rfl : (pj lw).1 30 159 = some (.goto 22, 3, 0)) rfl
theorem w30_162 {x : Int32} {l0 l1 : Slot} : W (pj lw) 30 162 (l0 :: l1 :: .val (.int x) :: L) S k n H Q ↔ W (pj lw) 30 163 (l0 :: l1 :: .val (.int x) :: L) (.int x :: S) k n H Q := W_s (rfl : (pj lw).1 30 162 = some (.iload_n 2, 1, 0)) rfl rfl rfl
theorem w30_163 {x : Int32} {l0 l1 l2 l3 l4 l5 : Slot} : W (pj lw) 30 163 (l0 :: l1 :: l2 :: l3 :: l4 :: l5 :: .val (.int x) :: L) S k n H Q ↔ W (pj lw) 30 165 (l0 :: l1 :: l2 :: l3 :: l4 :: l5 :: .val (.int x) :: L) (.int x :: S) k n H Q := W_s (rfl : (pj lw).1 30 163 = some (.iload 6, 2, 0)) rfl rfl rfl
theorem w30_165 {x y : Int32} : W (pj lw) 30 165 L (.int y :: .int x :: S) k n H Q ↔ (if x < y then W (pj lw) 30 175 L S k n H Q else W (pj lw) 30 168 L S k n H Q) := W_icmp_lt (rfl : (pj lw).1 30 165 = some (.if_icmp .lt 10, 3, 0)) rfl
theorem w30_168 {x : Int32} {l0 l1 : Slot} : W (pj lw) 30 168 (l0 :: l1 :: .val (.int x) :: L) S k n H Q ↔ W (pj lw) 30 169 (l0 :: l1 :: .val (.int x) :: L) (.int x :: S) k n H Q := W_s (rfl : (pj lw).1 30 168 = some (.iload_n 2, 1, 0)) rfl rfl rfl
theorem w30_169 {x : Int32} {l0 l1 l2 l3 l4 l5 : Slot} : W (pj lw) 30 169 (l0 :: l1 :: l2 :: l3 :: l4 :: l5 :: .val (.int x) :: L) S k n H Q ↔ W (pj lw) 30 171 (l0 :: l1 :: l2 :: l3 :: l4 :: l5 :: .val (.int x) :: L) (.int x :: S) k n H Q := W_s (rfl : (pj lw).1 30 169 = some (.iload 6, 2, 0)) rfl rfl rfl
theorem w30_171 {x y : Int32} : W (pj lw) 30 171 L (.int y :: .int x :: S) k n H Q ↔ W (pj lw) 30 172 L (.int (x - y) :: S) k n H Q := W_s (rfl : (pj lw).1 30 171 = some (.isub, 1, 0)) rfl rfl rfl
theorem w30_172 : W (pj lw) 30 172 L S k n H Q ↔ W (pj lw) 30 179 L S k n H Q := W_goto (rfl : (pj lw).1 30 172 = some (.goto 7, 3, 0)) rfl
theorem w30_175 {x : Int32} {l0 l1 l2 l3 l4 l5 : Slot} : W (pj lw) 30 175 (l0 :: l1 :: l2 :: l3 :: l4 :: l5 :: .val (.int x) :: L) S k n H Q ↔ W (pj lw) 30 177 (l0 :: l1 :: l2 :: l3 :: l4 :: l5 :: .val (.int x) :: L) (.int x :: S) k n H Q := W_s (rfl : (pj lw).1 30 175 = some (.iload 6, 2, 0)) rfl rfl rfl
theorem w30_177 {x : Int32} {l0 l1 : Slot} : W (pj lw) 30 177 (l0 :: l1 :: .val (.int x) :: L) S k n H Q ↔ W (pj lw) 30 178 (l0 :: l1 :: .val (.int x) :: L) (.int x :: S) k n H Q := W_s (rfl : (pj lw).1 30 177 = some (.iload_n 2, 1, 0)) rfl rfl rfl
theorem w30_178 {x y : Int32} : W (pj lw) 30 178 L (.int y :: .int x :: S) k n H Q ↔ W (pj lw) 30 179 L (.int (x - y) :: S) k n H Q := W_s (rfl : (pj lw).1 30 178 = some (.isub, 1, 0)) rfl rfl rfl
theorem w30_179 {x : Int32} {l0 l1 l2 l3 l4 l5 l6 l7 : Slot} : W (pj lw) 30 179 (l0 :: l1 :: l2 :: l3 :: l4 :: l5 :: l6 :: l7 :: .unset :: L) (.int x :: S) k n H Q ↔ W (pj lw) 30 181 (l0 :: l1 :: l2 :: l3 :: l4 :: l5 :: l6 :: l7 :: .val (.int x) :: L) S k n H Q := W_ist (rfl : (pj lw).1 30 179 = some (.istore 8, 2, 0)) rfl rfl
theorem w30_181 : W (pj lw) 30 181 L S k n H Q ↔ W (pj lw) 30 182 L (.int 2 :: S) k n H Q := W_s (rfl : (pj lw).1 30 181 = some (.iconst 2, 1, 0)) rfl rfl rfl
theorem w30_182 {x : Int32} {l0 l1 l2 l3 l4 l5 l6 l7 : Slot} : W (pj lw) 30 182 (l0 :: l1 :: l2 :: l3 :: l4 :: l5 :: l6 :: l7 :: .val (.int x) :: L) S k n H Q ↔ W (pj lw) 30 184 (l0 :: l1 :: l2 :: l3 :: l4 :: l5 :: l6 :: l7 :: .val (.int x) :: L) (.int x :: S) k n H Q := W_s (rfl : (pj lw).1 30 182 = some (.iload 8, 2, 0)) rfl rfl rfl
theorem w30_184 {x y : Int32} : W (pj lw) 30 184 L (.int y :: .int x :: S) k n H Q ↔ W (pj lw) 30 185 L (.int (x * y) :: S) k n H Q := W_s (rfl : (pj lw).1 30 184 = some (.imul, 1, 0)) rfl rfl rfl
theorem w30_185 {x : Int32} {l0 l1 l2 l3 l4 l5 l6 l7 l8 : Slot} : W (pj lw) 30 185 (l0 :: l1 :: l2 :: l3 :: l4 :: l5 :: l6 :: l7 :: l8 :: .unset :: L) (.int x :: S) k n H Q ↔ W (pj lw) 30 187 (l0 :: l1 :: l2 :: l3 :: l4 :: l5 :: l6 :: l7 :: l8 :: .val (.int x) :: L) S k n H Q := W_ist (rfl : (pj lw).1 30 185 = some (.istore 9, 2, 0)) rfl rfl
theorem w30_187 {x : Nat} : W (pj lw) 30 187 (.val (.ref x) :: L) S k n H Q ↔ W (pj lw) 30 188 (.val (.ref x) :: L) (.ref x :: S) k n H Q := W_s (rfl : (pj lw).1 30 187 = some (.aload_n 0, 1, 0)) rfl rfl rfl
theorem w30_188 {a : Nat} : W (pj lw) 30 188 L (.ref a :: S) k n H Q ↔ (isO H a = true ∧ W (pj lw) 30 191 L (fld H a 9 :: S) k n H Q) := W_getf (rfl : (pj lw).1 30 188 = some (.getfield 19, 3, 9))
theorem w30_191 {x : Int32} {l0 : Slot} : W (pj lw) 30 191 (l0 :: .val (.int x) :: L) S k n H Q ↔ W (pj lw) 30 192 (l0 :: .val (.int x) :: L) (.int x :: S) k n H Q := W_s (rfl : (pj lw).1 30 191 = some (.iload_n 1, 1, 0)) rfl rfl rfl
theorem w30_192 {i : Int32} {a : Nat} : W (pj lw) 30 192 L (.int i :: .ref a :: S) k n H Q ↔ (inA H a .int i = true ∧ W (pj lw) 30 193 L (elt H a i :: S) k n H Q) := W_iaload (rfl : (pj lw).1 30 192 = some (.iaload, 1, 0))
theorem w30_193 {x : Nat} : W (pj lw) 30 193 (.val (.ref x) :: L) S k n H Q ↔ W (pj lw) 30 194 (.val (.ref x) :: L) (.ref x :: S) k n H Q := W_s (rfl : (pj lw).1 30 193 = some (.aload_n 0, 1, 0)) rfl rfl rfl
theorem w30_194 {a : Nat} : W (pj lw) 30 194 L (.ref a :: S) k n H Q ↔ (isO H a = true ∧ W (pj lw) 30 197 L (fld H a 2 :: S) k n H Q) := W_getf (rfl : (pj lw).1 30 194 = some (.getfield 60, 3, 2))
theorem w30_197 {x y : Int32} : W (pj lw) 30 197 L (.int y :: .int x :: S) k n H Q ↔ (if x = y then W (pj lw) 30 200 L S k n H Q else W (pj lw) 30 203 L S k n H Q) := W_icmp_ne (rfl : (pj lw).1 30 197 = some (.if_icmp .ne 6, 3, 0)) rfl
theorem w30_200 {x : Int32} {l0 l1 l2 l3 l4 l5 l6 l7 l8 : Slot} : W (pj lw) 30 200 (l0 :: l1 :: l2 :: l3 :: l4 :: l5 :: l6 :: l7 :: l8 :: .val (.int x) :: L) S k n H Q ↔ W (pj lw) 30 203 (l0 :: l1 :: l2 :: l3 :: l4 :: l5 :: l6 :: l7 :: l8 :: .val (.int (x + 64)) :: L) S k n H Q := W_s (rfl : (pj lw).1 30 200 = some (.iinc 9 64, 3, 0)) rfl rfl rfl
theorem w30_203 {x : Int32} {l0 l1 l2 l3 l4 l5 l6 l7 l8 : Slot} : W (pj lw) 30 203 (l0 :: l1 :: l2 :: l3 :: l4 :: l5 :: l6 :: l7 :: l8 :: .val (.int x) :: L) S k n H Q ↔ W (pj lw) 30 205 (l0 :: l1 :: l2 :: l3 :: l4 :: l5 :: l6 :: l7 :: l8 :: .val (.int x) :: L) (.int x :: S) k n H Q := W_s (rfl : (pj lw).1 30 203 = some (.iload 9, 2, 0)) rfl rfl rfl
theorem w30_205 {x : Int32} : W (pj lw) 30 205 L (.int x :: S) k n H Q ↔ Q (some (.int x)) H := W_r (rfl : (pj lw).1 30 205 = some (.ireturn, 1, 0)) rfl
theorem c31 {x0 : Nat} {x1 : Int32} : Cl (pj lw) 31 [.ref x0, .int x1] H Q ↔ W (pj lw) 31 0 [.val (.ref x0), .val (.int x1), .unset] [] 0 0 H Q := cl_unf rfl
theorem w31_0 {x : Nat} : W (pj lw) 31 0 (.val (.ref x) :: L) S k n H Q ↔ W (pj lw) 31 1 (.val (.ref x) :: L) (.ref x :: S) k n H Q := W_s (rfl : (pj lw).1 31 0 = some (.aload_n 0, 1, 0)) rfl rfl rfl
theorem w31_1 {a : Nat} : W (pj lw) 31 1 L (.ref a :: S) k n H Q ↔ (isO H a = true ∧ W (pj lw) 31 4 L (fld H a 7 :: S) k n H Q) := W_getf (rfl : (pj lw).1 31 1 = some (.getfield 13, 3, 7))
theorem w31_4 {x : Int32} {l0 : Slot} : W (pj lw) 31 4 (l0 :: .val (.int x) :: L) S k n H Q ↔ W (pj lw) 31 5 (l0 :: .val (.int x) :: L) (.int x :: S) k n H Q := W_s (rfl : (pj lw).1 31 4 = some (.iload_n 1, 1, 0)) rfl rfl rfl
theorem w31_5 {i : Int32} {a : Nat} : W (pj lw) 31 5 L (.int i :: .ref a :: S) k n H Q ↔ (inA H a .int i = true ∧ W (pj lw) 31 6 L (elt H a i :: S) k n H Q) := W_iaload (rfl : (pj lw).1 31 5 = some (.iaload, 1, 0))
theorem w31_6 {x : Int32} {l0 l1 : Slot} : W (pj lw) 31 6 (l0 :: l1 :: .unset :: L) (.int x :: S) k n H Q ↔ W (pj lw) 31 7 (l0 :: l1 :: .val (.int x) :: L) S k n H Q := W_istn (rfl : (pj lw).1 31 6 = some (.istore_n 2, 1, 0)) rfl rfl
theorem w31_7 {x : Int32} {l0 l1 : Slot} : W (pj lw) 31 7 (l0 :: l1 :: .val (.int x) :: L) S k n H Q ↔ W (pj lw) 31 8 (l0 :: l1 :: .val (.int x) :: L) (.int x :: S) k n H Q := W_s (rfl : (pj lw).1 31 7 = some (.iload_n 2, 1, 0)) rfl rfl rfl
theorem w31_8 {x : Int32} : W (pj lw) 31 8 L (.int x :: S) k n H Q ↔ (if x = 0 then W (pj lw) 31 11 L S k n H Q else W (pj lw) 31 19 L S k n H Q) := W_if_ne (rfl : (pj lw).1 31 8 = some (.ifCond .ne 11, 3, 0)) rfl
theorem w31_11 {x : Nat} : W (pj lw) 31 11 (.val (.ref x) :: L) S k n H Q ↔ W (pj lw) 31 12 (.val (.ref x) :: L) (.ref x :: S) k n H Q := W_s (rfl : (pj lw).1 31 11 = some (.aload_n 0, 1, 0)) rfl rfl rfl
theorem w31_12 {x : Int32} {l0 : Slot} : W (pj lw) 31 12 (l0 :: .val (.int x) :: L) S k n H Q ↔ W (pj lw) 31 13 (l0 :: .val (.int x) :: L) (.int x :: S) k n H Q := W_s (rfl : (pj lw).1 31 12 = some (.iload_n 1, 1, 0)) rfl rfl rfl
theorem w31_13 {a : Nat} {x0 : Int32} : W (pj lw) 31 13 L (.int x0 :: .ref a :: S) k n H Q ↔ ((isO H a = true ∧ cs S + (3 + 11) + 89 ≤ 105) ∧ Cl (pj lw) 32 [.ref a, .int x0] H (fun v H => W (pj lw) 31 16 L (v.toList ++ S) k n H Q)) := W_inst (as := [.int x0]) (rfl : (pj lw).1 31 13 = some (.invokevirtual 124, 3, 32)) rfl rfl rfl (Nat.le_of_ble_eq_true rfl) (Nat.le_of_ble_eq_true rfl) ⟨rfl, rfl⟩
theorem w31_16 : W (pj lw) 31 16 L S k n H Q ↔ W (pj lw) 31 55 L S k n H Q := W_goto (rfl : (pj lw).1 31 16 = some (.goto 39, 3, 0)) rfl
theorem w31_19 {x : Int32} {l0 l1 : Slot} : W (pj lw) 31 19 (l0 :: l1 :: .val (.int x) :: L) S k n H Q ↔ W (pj lw) 31 20 (l0 :: l1 :: .val (.int x) :: L) (.int x :: S) k n H Q := W_s (rfl : (pj lw).1 31 19 = some (.iload_n 2, 1, 0)) rfl rfl rfl
theorem w31_20 : W (pj lw) 31 20 L S k n H Q ↔ W (pj lw) 31 21 L (.int 3 :: S) k n H Q := W_s (rfl : (pj lw).1 31 20 = some (.iconst 3, 1, 0)) rfl rfl rfl
theorem w31_21 {x y : Int32} : W (pj lw) 31 21 L (.int y :: .int x :: S) k n H Q ↔ (if x = y then W (pj lw) 31 24 L S k n H Q else W (pj lw) 31 32 L S k n H Q) := W_icmp_ne (rfl : (pj lw).1 31 21 = some (.if_icmp .ne 11, 3, 0)) rfl
theorem w31_24 {x : Nat} : W (pj lw) 31 24 (.val (.ref x) :: L) S k n H Q ↔ W (pj lw) 31 25 (.val (.ref x) :: L) (.ref x :: S) k n H Q := W_s (rfl : (pj lw).1 31 24 = some (.aload_n 0, 1, 0)) rfl rfl rfl
theorem w31_25 {x : Int32} {l0 : Slot} : W (pj lw) 31 25 (l0 :: .val (.int x) :: L) S k n H Q ↔ W (pj lw) 31 26 (l0 :: .val (.int x) :: L) (.int x :: S) k n H Q := W_s (rfl : (pj lw).1 31 25 = some (.iload_n 1, 1, 0)) rfl rfl rfl
theorem w31_26 {a : Nat} {x0 : Int32} : W (pj lw) 31 26 L (.int x0 :: .ref a :: S) k n H Q ↔ ((isO H a = true ∧ cs S + (6 + 11) + 74 ≤ 105) ∧ Cl (pj lw) 33 [.ref a, .int x0] H (fun v H => W (pj lw) 31 29 L (v.toList ++ S) k n H Q)) := W_inst (as := [.int x0]) (rfl : (pj lw).1 31 26 = some (.invokevirtual 127, 3, 33)) rfl rfl rfl (Nat.le_of_ble_eq_true rfl) (Nat.le_of_ble_eq_true rfl) ⟨rfl, rfl⟩
theorem w31_29 : W (pj lw) 31 29 L S k n H Q ↔ W (pj lw) 31 55 L S k n H Q := W_goto (rfl : (pj lw).1 31 29 = some (.goto 26, 3, 0)) rfl
theorem w31_32 {x : Int32} {l0 l1 : Slot} : W (pj lw) 31 32 (l0 :: l1 :: .val (.int x) :: L) S k n H Q ↔ W (pj lw) 31 33 (l0 :: l1 :: .val (.int x) :: L) (.int x :: S) k n H Q := W_s (rfl : (pj lw).1 31 32 = some (.iload_n 2, 1, 0)) rfl rfl rfl
theorem w31_33 : W (pj lw) 31 33 L S k n H Q ↔ W (pj lw) 31 34 L (.int 1 :: S) k n H Q := W_s (rfl : (pj lw).1 31 33 = some (.iconst 1, 1, 0)) rfl rfl rfl
theorem w31_34 {x y : Int32} : W (pj lw) 31 34 L (.int y :: .int x :: S) k n H Q ↔ (if x = y then W (pj lw) 31 37 L S k n H Q else W (pj lw) 31 45 L S k n H Q) := W_icmp_ne (rfl : (pj lw).1 31 34 = some (.if_icmp .ne 11, 3, 0)) rfl
theorem w31_37 {x : Nat} : W (pj lw) 31 37 (.val (.ref x) :: L) S k n H Q ↔ W (pj lw) 31 38 (.val (.ref x) :: L) (.ref x :: S) k n H Q := W_s (rfl : (pj lw).1 31 37 = some (.aload_n 0, 1, 0)) rfl rfl rfl
theorem w31_38 {x : Int32} {l0 : Slot} : W (pj lw) 31 38 (l0 :: .val (.int x) :: L) S k n H Q ↔ W (pj lw) 31 39 (l0 :: .val (.int x) :: L) (.int x :: S) k n H Q := W_s (rfl : (pj lw).1 31 38 = some (.iload_n 1, 1, 0)) rfl rfl rfl
theorem w31_39 {a : Nat} {x0 : Int32} : W (pj lw) 31 39 L (.int x0 :: .ref a :: S) k n H Q ↔ ((isO H a = true ∧ cs S + (5 + 11) + 89 ≤ 105) ∧ Cl (pj lw) 34 [.ref a, .int x0] H (fun v H => W (pj lw) 31 42 L (v.toList ++ S) k n H Q)) := W_inst (as := [.int x0]) (rfl : (pj lw).1 31 39 = some (.invokevirtual 130, 3, 34)) rfl rfl rfl (Nat.le_of_ble_eq_true rfl) (Nat.le_of_ble_eq_true rfl) ⟨rfl, rfl⟩
theorem w31_42 : W (pj lw) 31 42 L S k n H Q ↔ W (pj lw) 31 55 L S k n H Q := W_goto (rfl : (pj lw).1 31 42 = some (.goto 13, 3, 0)) rfl
theorem w31_45 {x : Int32} {l0 l1 : Slot} : W (pj lw) 31 45 (l0 :: l1 :: .val (.int x) :: L) S k n H Q ↔ W (pj lw) 31 46 (l0 :: l1 :: .val (.int x) :: L) (.int x :: S) k n H Q := W_s (rfl : (pj lw).1 31 45 = some (.iload_n 2, 1, 0)) rfl rfl rfl
theorem w31_46 : W (pj lw) 31 46 L S k n H Q ↔ W (pj lw) 31 47 L (.int 2 :: S) k n H Q := W_s (rfl : (pj lw).1 31 46 = some (.iconst 2, 1, 0)) rfl rfl rfl
theorem w31_47 {x y : Int32} : W (pj lw) 31 47 L (.int y :: .int x :: S) k n H Q ↔ (if x = y then W (pj lw) 31 50 L S k n H Q else W (pj lw) 31 55 L S k n H Q) := W_icmp_ne (rfl : (pj lw).1 31 47 = some (.if_icmp .ne 8, 3, 0)) rfl
theorem w31_50 {x : Nat} : W (pj lw) 31 50 (.val (.ref x) :: L) S k n H Q ↔ W (pj lw) 31 51 (.val (.ref x) :: L) (.ref x :: S) k n H Q := W_s (rfl : (pj lw).1 31 50 = some (.aload_n 0, 1, 0)) rfl rfl rfl
theorem w31_51 {x : Int32} {l0 : Slot} : W (pj lw) 31 51 (l0 :: .val (.int x) :: L) S k n H Q ↔ W (pj lw) 31 52 (l0 :: .val (.int x) :: L) (.int x :: S) k n H Q := W_s (rfl : (pj lw).1 31 51 = some (.iload_n 1, 1, 0)) rfl rfl rfl
theorem w31_52 {a : Nat} {x0 : Int32} : W (pj lw) 31 52 L (.int x0 :: .ref a :: S) k n H Q ↔ ((isO H a = true ∧ cs S + (3 + 11) + 89 ≤ 105) ∧ Cl (pj lw) 37 [.ref a, .int x0] H (fun v H => W (pj lw) 31 55 L (v.toList ++ S) k n H Q)) := W_inst (as := [.int x0]) (rfl : (pj lw).1 31 52 = some (.invokevirtual 133, 3, 37)) rfl rfl rfl (Nat.le_of_ble_eq_true rfl) (Nat.le_of_ble_eq_true rfl) ⟨rfl, rfl⟩
theorem w31_55 : W (pj lw) 31 55 L [] k n H Q ↔ Q none H := W_r (rfl : (pj lw).1 31 55 = some (.return_, 1, 0)) rfl
theorem c32 {x0 : Nat} {x1 : Int32} : Cl (pj lw) 32 [.ref x0, .int x1] H Q ↔ W (pj lw) 32 0 [.val (.ref x0), .val (.int x1), .unset] [] 0 0 H Q := cl_unf rfl
theorem w32_0 {x : Nat} : W (pj lw) 32 0 (.val (.ref x) :: L) S k n H Q ↔ W (pj lw) 32 1 (.val (.ref x) :: L) (.ref x :: S) k n H Q := W_s (rfl : (pj lw).1 32 0 = some (.aload_n 0, 1, 0)) rfl rfl rfl
theorem w32_1 {x : Int32} {l0 : Slot} : W (pj lw) 32 1 (l0 :: .val (.int x) :: L) S k n H Q ↔ W (pj lw) 32 2 (l0 :: .val (.int x) :: L) (.int x :: S) k n H Q := W_s (rfl : (pj lw).1 32 1 = some (.iload_n 1, 1, 0)) rfl rfl rfl
theorem w32_2 {a : Nat} {x0 : Int32} : W (pj lw) 32 2 L (.int x0 :: .ref a :: S) k n H Q ↔ ((isO H a = true ∧ cs S + (4 + 11) + 74 ≤ 89) ∧ Cl (pj lw) 25 [.ref a, .int x0] H (fun v H => W (pj lw) 32 5 L (v.toList ++ S) k n H Q)) := W_inst (as := [.int x0]) (rfl : (pj lw).1 32 2 = some (.invokevirtual 136, 3, 25)) rfl rfl rfl (Nat.le_of_ble_eq_true rfl) (Nat.le_of_ble_eq_true rfl) ⟨rfl, rfl⟩
theorem w32_5 {x : Int32} {l0 l1 : Slot} : W (pj lw) 32 5 (l0 :: l1 :: .unset :: L) (.int x :: S) k n H Q ↔ W (pj lw) 32 6 (l0 :: l1 :: .val (.int x) :: L) S k n H Q := W_istn (rfl : (pj lw).1 32 5 = some (.istore_n 2, 1, 0)) rfl rfl
theorem w32_6 {x : Nat} : W (pj lw) 32 6 (.val (.ref x) :: L) S k n H Q ↔ W (pj lw) 32 7 (.val (.ref x) :: L) (.ref x :: S) k n H Q := W_s (rfl : (pj lw).1 32 6 = some (.aload_n 0, 1, 0)) rfl rfl rfl
theorem w32_7 {a : Nat} : W (pj lw) 32 7 L (.ref a :: S) k n H Q ↔ (isO H a = true ∧ W (pj lw) 32 10 L (fld H a 8 :: S) k n H Q) := W_getf (rfl : (pj lw).1 32 7 = some (.getfield 16, 3, 8))
theorem w32_10 {x : Int32} {l0 : Slot} : W (pj lw) 32 10 (l0 :: .val (.int x) :: L) S k n H Q ↔ W (pj lw) 32 11 (l0 :: .val (.int x) :: L) (.int x :: S) k n H Q := W_s (rfl : (pj lw).1 32 10 = some (.iload_n 1, 1, 0)) rfl rfl rfl
theorem w32_11 {x : Int32} {l0 l1 : Slot} : W (pj lw) 32 11 (l0 :: l1 :: .val (.int x) :: L) S k n H Q ↔ W (pj lw) 32 12 (l0 :: l1 :: .val (.int x) :: L) (.int x :: S) k n H Q := W_s (rfl : (pj lw).1 32 11 = some (.iload_n 2, 1, 0)) rfl rfl rfl
theorem w32_12 {x i : Int32} {a : Nat} : W (pj lw) 32 12 L (.int x :: .int i :: .ref a :: S) k n H Q ↔ (inAw H a .int i = true ∧ W (pj lw) 32 13 L S k n (wr H a i.toNatClampNeg (.int x)) Q) := W_iastore (rfl : (pj lw).1 32 12 = some (.iastore, 1, 0))
theorem w32_13 {x : Int32} {l0 l1 : Slot} : W (pj lw) 32 13 (l0 :: l1 :: .val (.int x) :: L) S k n H Q ↔ W (pj lw) 32 14 (l0 :: l1 :: .val (.int x) :: L) (.int x :: S) k n H Q := W_s (rfl : (pj lw).1 32 13 = some (.iload_n 2, 1, 0)) rfl rfl rfl
theorem w32_14 {x : Int32} : W (pj lw) 32 14 L (.int x :: S) k n H Q ↔ (if x = 0 then W (pj lw) 32 17 L S k n H Q else W (pj lw) 32 18 L S k n H Q) := W_if_ne (rfl : (pj lw).1 32 14 = some (.ifCond .ne 4, 3, 0)) rfl
theorem w32_17 : W (pj lw) 32 17 L [] k n H Q ↔ Q none H := W_r (rfl : (pj lw).1 32 17 = some (.return_, 1, 0)) rfl
theorem w32_18 {x : Nat} : W (pj lw) 32 18 (.val (.ref x) :: L) S k n H Q ↔ W (pj lw) 32 19 (.val (.ref x) :: L) (.ref x :: S) k n H Q := W_s (rfl : (pj lw).1 32 18 = some (.aload_n 0, 1, 0)) rfl rfl rfl
theorem w32_19 {x : Int32} {l0 : Slot} : W (pj lw) 32 19 (l0 :: .val (.int x) :: L) S k n H Q ↔ W (pj lw) 32 20 (l0 :: .val (.int x) :: L) (.int x :: S) k n H Q := W_s (rfl : (pj lw).1 32 19 = some (.iload_n 1, 1, 0)) rfl rfl rfl
theorem w32_20 {a : Nat} {x0 : Int32} : W (pj lw) 32 20 L (.int x0 :: .ref a :: S) k n H Q ↔ ((isO H a = true ∧ cs S + (2 + 11) + 0 ≤ 89) ∧ Cl (pj lw) 24 [.ref a, .int x0] H (fun v H => W (pj lw) 32 23 L (v.toList ++ S) k n H Q)) := W_inst (as := [.int x0]) (rfl : (pj lw).1 32 20 = some (.invokevirtual 139, 3, 24)) rfl rfl rfl (Nat.le_of_ble_eq_true rfl) (Nat.le_of_ble_eq_true rfl) ⟨rfl, rfl⟩
theorem w32_23 {x : Int32} : W (pj lw) 32 23 L (.int x :: S) k n H Q ↔ (if x = 0 then W (pj lw) 32 57 L S k n H Q else W (pj lw) 32 26 L S k n H Q) := W_if_eq (rfl : (pj lw).1 32 23 = some (.ifCond .eq 34, 3, 0)) rfl
theorem w32_26 {x : Nat} : W (pj lw) 32 26 (.val (.ref x) :: L) S k n H Q ↔ W (pj lw) 32 27 (.val (.ref x) :: L) (.ref x :: S) k n H Q := W_s (rfl : (pj lw).1 32 26 = some (.aload_n 0, 1, 0)) rfl rfl rfl
theorem w32_27 {x : Nat} : W (pj lw) 32 27 (.val (.ref x) :: L) S k n H Q ↔ W (pj lw) 32 28 (.val (.ref x) :: L) (.ref x :: S) k n H Q := W_s (rfl : (pj lw).1 32 27 = some (.aload_n 0, 1, 0)) rfl rfl rfl
theorem w32_28 {a : Nat} : W (pj lw) 32 28 L (.ref a :: S) k n H Q ↔ (isO H a = true ∧ W (pj lw) 32 31 L (fld H a 6 :: S) k n H Q) := W_getf (rfl : (pj lw).1 32 28 = some (.getfield 7, 3, 6))
theorem w32_31 {x : Int32} {l0 : Slot} : W (pj lw) 32 31 (l0 :: .val (.int x) :: L) S k n H Q ↔ W (pj lw) 32 32 (l0 :: .val (.int x) :: L) (.int x :: S) k n H Q := W_s (rfl : (pj lw).1 32 31 = some (.iload_n 1, 1, 0)) rfl rfl rfl
theorem w32_32 {i : Int32} {a : Nat} : W (pj lw) 32 32 L (.int i :: .ref a :: S) k n H Q ↔ (inA H a .int i = true ∧ W (pj lw) 32 33 L (elt H a i :: S) k n H Q) := W_iaload (rfl : (pj lw).1 32 32 = some (.iaload, 1, 0))
theorem w32_33 {x : Int32} {l0 l1 : Slot} : W (pj lw) 32 33 (l0 :: l1 :: .val (.int x) :: L) S k n H Q ↔ W (pj lw) 32 34 (l0 :: l1 :: .val (.int x) :: L) (.int x :: S) k n H Q := W_s (rfl : (pj lw).1 32 33 = some (.iload_n 2, 1, 0)) rfl rfl rfl
theorem w32_34 {a : Nat} {x0 : Int32} {x1 : Int32} : W (pj lw) 32 34 L (.int x1 :: .int x0 :: .ref a :: S) k n H Q ↔ ((isO H a = true ∧ cs S + (4 + 11) + 13 ≤ 89) ∧ Cl (pj lw) 19 [.ref a, .int x0, .int x1] H (fun v H => W (pj lw) 32 37 L (v.toList ++ S) k n H Q)) := W_inst (as := [.int x0, .int x1]) (rfl : (pj lw).1 32 34 = some (.invokevirtual 79, 3, 19)) rfl rfl rfl (Nat.le_of_ble_eq_true rfl) (Nat.le_of_ble_eq_true rfl) ⟨rfl, rfl⟩
theorem w32_37 {x : Int32} : W (pj lw) 32 37 L (.int x :: S) k n H Q ↔ (if x = 0 then W (pj lw) 32 57 L S k n H Q else W (pj lw) 32 40 L S k n H Q) := W_if_eq (rfl : (pj lw).1 32 37 = some (.ifCond .eq 20, 3, 0)) rfl
theorem w32_40 {x : Nat} : W (pj lw) 32 40 (.val (.ref x) :: L) S k n H Q ↔ W (pj lw) 32 41 (.val (.ref x) :: L) (.ref x :: S) k n H Q := W_s (rfl : (pj lw).1 32 40 = some (.aload_n 0, 1, 0)) rfl rfl rfl
theorem w32_41 {a : Nat} : W (pj lw) 32 41 L (.ref a :: S) k n H Q ↔ (isO H a = true ∧ W (pj lw) 32 44 L (fld H a 7 :: S) k n H Q) := W_getf (rfl : (pj lw).1 32 41 = some (.getfield 13, 3, 7))
theorem w32_44 {x : Int32} {l0 : Slot} : W (pj lw) 32 44 (l0 :: .val (.int x) :: L) S k n H Q ↔ W (pj lw) 32 45 (l0 :: .val (.int x) :: L) (.int x :: S) k n H Q := W_s (rfl : (pj lw).1 32 44 = some (.iload_n 1, 1, 0)) rfl rfl rfl
theorem w32_45 : W (pj lw) 32 45 L S k n H Q ↔ W (pj lw) 32 46 L (.int 1 :: S) k n H Q := W_s (rfl : (pj lw).1 32 45 = some (.iconst 1, 1, 0)) rfl rfl rfl
theorem w32_46 {x i : Int32} {a : Nat} : W (pj lw) 32 46 L (.int x :: .int i :: .ref a :: S) k n H Q ↔ (inAw H a .int i = true ∧ W (pj lw) 32 47 L S k n (wr H a i.toNatClampNeg (.int x)) Q) := W_iastore (rfl : (pj lw).1 32 46 = some (.iastore, 1, 0))
theorem w32_47 {x : Nat} : W (pj lw) 32 47 (.val (.ref x) :: L) S k n H Q ↔ W (pj lw) 32 48 (.val (.ref x) :: L) (.ref x :: S) k n H Q := W_s (rfl : (pj lw).1 32 47 = some (.aload_n 0, 1, 0)) rfl rfl rfl
theorem w32_48 {a : Nat} : W (pj lw) 32 48 L (.ref a :: S) k n H Q ↔ (isO H a = true ∧ W (pj lw) 32 51 L (fld H a 10 :: S) k n H Q) := W_getf (rfl : (pj lw).1 32 48 = some (.getfield 22, 3, 10))
theorem w32_51 {x : Int32} {l0 : Slot} : W (pj lw) 32 51 (l0 :: .val (.int x) :: L) S k n H Q ↔ W (pj lw) 32 52 (l0 :: .val (.int x) :: L) (.int x :: S) k n H Q := W_s (rfl : (pj lw).1 32 51 = some (.iload_n 1, 1, 0)) rfl rfl rfl
theorem w32_52 : W (pj lw) 32 52 L S k n H Q ↔ W (pj lw) 32 53 L (.int 3 :: S) k n H Q := W_s (rfl : (pj lw).1 32 52 = some (.iconst 3, 1, 0)) rfl rfl rfl
theorem w32_53 {x i : Int32} {a : Nat} : W (pj lw) 32 53 L (.int x :: .int i :: .ref a :: S) k n H Q ↔ (inAw H a .int i = true ∧ W (pj lw) 32 54 L S k n (wr H a i.toNatClampNeg (.int x)) Q) := W_iastore (rfl : (pj lw).1 32 53 = some (.iastore, 1, 0))
theorem w32_54 : W (pj lw) 32 54 L S k n H Q ↔ W (pj lw) 32 80 L S k n H Q := W_goto (rfl : (pj lw).1 32 54 = some (.goto 26, 3, 0)) rfl
theorem w32_57 {x : Nat} : W (pj lw) 32 57 (.val (.ref x) :: L) S k n H Q ↔ W (pj lw) 32 58 (.val (.ref x) :: L) (.ref x :: S) k n H Q := W_s (rfl : (pj lw).1 32 57 = some (.aload_n 0, 1, 0)) rfl rfl rfl
theorem w32_58 {x : Int32} {l0 : Slot} : W (pj lw) 32 58 (l0 :: .val (.int x) :: L) S k n H Q ↔ W (pj lw) 32 59 (l0 :: .val (.int x) :: L) (.int x :: S) k n H Q := W_s (rfl : (pj lw).1 32 58 = some (.iload_n 1, 1, 0)) rfl rfl rfl
theorem w32_59 {x : Int32} {l0 l1 : Slot} : W (pj lw) 32 59 (l0 :: l1 :: .val (.int x) :: L) S k n H Q ↔ W (pj lw) 32 60 (l0 :: l1 :: .val (.int x) :: L) (.int x :: S) k n H Q := W_s (rfl : (pj lw).1 32 59 = some (.iload_n 2, 1, 0)) rfl rfl rfl
theorem w32_60 {a : Nat} {x0 : Int32} {x1 : Int32} : W (pj lw) 32 60 L (.int x1 :: .int x0 :: .ref a :: S) k n H Q ↔ ((isO H a = true ∧ cs S + (6 + 11) + 57 ≤ 89) ∧ Cl (pj lw) 23 [.ref a, .int x0, .int x1] H (fun v H => W (pj lw) 32 63 L (v.toList ++ S) k n H Q)) := W_inst (as := [.int x0, .int x1]) (rfl : (pj lw).1 32 60 = some (.invokevirtual 104, 3, 23)) rfl rfl rfl (Nat.le_of_ble_eq_true rfl) (Nat.le_of_ble_eq_true rfl) ⟨rfl, rfl⟩
theorem w32_63 {x : Int32} : W (pj lw) 32 63 L (.int x :: S) k n H Q ↔ (if x = 0 then W (pj lw) 32 80 L S k n H Q else W (pj lw) 32 66 L S k n H Q) := W_if_eq (rfl : (pj lw).1 32 63 = some (.ifCond .eq 17, 3, 0)) rfl
theorem w32_66 {x : Nat} : W (pj lw) 32 66 (.val (.ref x) :: L) S k n H Q ↔ W (pj lw) 32 67 (.val (.ref x) :: L) (.ref x :: S) k n H Q := W_s (rfl : (pj lw).1 32 66 = some (.aload_n 0, 1, 0)) rfl rfl rfl
theorem w32_67 {a : Nat} : W (pj lw) 32 67 L (.ref a :: S) k n H Q ↔ (isO H a = true ∧ W (pj lw) 32 70 L (fld H a 7 :: S) k n H Q) := W_getf (rfl : (pj lw).1 32 67 = some (.getfield 13, 3, 7))
theorem w32_70 {x : Int32} {l0 : Slot} : W (pj lw) 32 70 (l0 :: .val (.int x) :: L) S k n H Q ↔ W (pj lw) 32 71 (l0 :: .val (.int x) :: L) (.int x :: S) k n H Q := W_s (rfl : (pj lw).1 32 70 = some (.iload_n 1, 1, 0)) rfl rfl rfl
theorem w32_71 : W (pj lw) 32 71 L S k n H Q ↔ W (pj lw) 32 72 L (.int 3 :: S) k n H Q := W_s (rfl : (pj lw).1 32 71 = some (.iconst 3, 1, 0)) rfl rfl rfl
theorem w32_72 {x i : Int32} {a : Nat} : W (pj lw) 32 72 L (.int x :: .int i :: .ref a :: S) k n H Q ↔ (inAw H a .int i = true ∧ W (pj lw) 32 73 L S k n (wr H a i.toNatClampNeg (.int x)) Q) := W_iastore (rfl : (pj lw).1 32 72 = some (.iastore, 1, 0))
theorem w32_73 {x : Nat} : W (pj lw) 32 73 (.val (.ref x) :: L) S k n H Q ↔ W (pj lw) 32 74 (.val (.ref x) :: L) (.ref x :: S) k n H Q := W_s (rfl : (pj lw).1 32 73 = some (.aload_n 0, 1, 0)) rfl rfl rfl
theorem w32_74 {a : Nat} : W (pj lw) 32 74 L (.ref a :: S) k n H Q ↔ (isO H a = true ∧ W (pj lw) 32 77 L (fld H a 10 :: S) k n H Q) := W_getf (rfl : (pj lw).1 32 74 = some (.getfield 22, 3, 10))
theorem w32_77 {x : Int32} {l0 : Slot} : W (pj lw) 32 77 (l0 :: .val (.int x) :: L) S k n H Q ↔ W (pj lw) 32 78 (l0 :: .val (.int x) :: L) (.int x :: S) k n H Q := W_s (rfl : (pj lw).1 32 77 = some (.iload_n 1, 1, 0)) rfl rfl rfl
theorem w32_78 : W (pj lw) 32 78 L S k n H Q ↔ W (pj lw) 32 79 L (.int 3 :: S) k n H Q := W_s (rfl : (pj lw).1 32 78 = some (.iconst 3, 1, 0)) rfl rfl rfl
theorem w32_79 {x i : Int32} {a : Nat} : W (pj lw) 32 79 L (.int x :: .int i :: .ref a :: S) k n H Q ↔ (inAw H a .int i = true ∧ W (pj lw) 32 80 L S k n (wr H a i.toNatClampNeg (.int x)) Q) := W_iastore (rfl : (pj lw).1 32 79 = some (.iastore, 1, 0))
theorem w32_80 : W (pj lw) 32 80 L [] k n H Q ↔ Q none H := W_r (rfl : (pj lw).1 32 80 = some (.return_, 1, 0)) rfl
theorem c33 {x0 : Nat} {x1 : Int32} : Cl (pj lw) 33 [.ref x0, .int x1] H Q ↔ W (pj lw) 33 0 [.val (.ref x0), .val (.int x1), .unset, .unset, .unset, .unset] [] 0 0 H Q := cl_unf rfl
theorem w33_0 {x : Nat} : W (pj lw) 33 0 (.val (.ref x) :: L) S k n H Q ↔ W (pj lw) 33 1 (.val (.ref x) :: L) (.ref x :: S) k n H Q := W_s (rfl : (pj lw).1 33 0 = some (.aload_n 0, 1, 0)) rfl rfl rfl
theorem w33_1 {a : Nat} : W (pj lw) 33 1 L (.ref a :: S) k n H Q ↔ (isO H a = true ∧ W (pj lw) 33 4 L (fld H a 10 :: S) k n H Q) := W_getf (rfl : (pj lw).1 33 1 = some (.getfield 22, 3, 10))
theorem w33_4 {x : Int32} {l0 : Slot} : W (pj lw) 33 4 (l0 :: .val (.int x) :: L) S k n H Q ↔ W (pj lw) 33 5 (l0 :: .val (.int x) :: L) (.int x :: S) k n H Q := W_s (rfl : (pj lw).1 33 4 = some (.iload_n 1, 1, 0)) rfl rfl rfl
theorem w33_5 {x : Nat} : W (pj lw) 33 5 (.val (.ref x) :: L) S k n H Q ↔ W (pj lw) 33 6 (.val (.ref x) :: L) (.ref x :: S) k n H Q := W_s (rfl : (pj lw).1 33 5 = some (.aload_n 0, 1, 0)) rfl rfl rfl
theorem w33_6 {a : Nat} : W (pj lw) 33 6 L (.ref a :: S) k n H Q ↔ (isO H a = true ∧ W (pj lw) 33 9 L (fld H a 10 :: S) k n H Q) := W_getf (rfl : (pj lw).1 33 6 = some (.getfield 22, 3, 10))
theorem w33_9 {x : Int32} {l0 : Slot} : W (pj lw) 33 9 (l0 :: .val (.int x) :: L) S k n H Q ↔ W (pj lw) 33 10 (l0 :: .val (.int x) :: L) (.int x :: S) k n H Q := W_s (rfl : (pj lw).1 33 9 = some (.iload_n 1, 1, 0)) rfl rfl rfl
theorem w33_10 {i : Int32} {a : Nat} : W (pj lw) 33 10 L (.int i :: .ref a :: S) k n H Q ↔ (inA H a .int i = true ∧ W (pj lw) 33 11 L (elt H a i :: S) k n H Q) := W_iaload (rfl : (pj lw).1 33 10 = some (.iaload, 1, 0))
theorem w33_11 : W (pj lw) 33 11 L S k n H Q ↔ W (pj lw) 33 12 L (.int 1 :: S) k n H Q := W_s (rfl : (pj lw).1 33 11 = some (.iconst 1, 1, 0)) rfl rfl rfl
theorem w33_12 {x y : Int32} : W (pj lw) 33 12 L (.int y :: .int x :: S) k n H Q ↔ W (pj lw) 33 13 L (.int (x - y) :: S) k n H Q := W_s (rfl : (pj lw).1 33 12 = some (.isub, 1, 0)) rfl rfl rfl
theorem w33_13 {x i : Int32} {a : Nat} : W (pj lw) 33 13 L (.int x :: .int i :: .ref a :: S) k n H Q ↔ (inAw H a .int i = true ∧ W (pj lw) 33 14 L S k n (wr H a i.toNatClampNeg (.int x)) Q) := W_iastore (rfl : (pj lw).1 33 13 = some (.iastore, 1, 0))
theorem w33_14 {x : Nat} : W (pj lw) 33 14 (.val (.ref x) :: L) S k n H Q ↔ W (pj lw) 33 15 (.val (.ref x) :: L) (.ref x :: S) k n H Q := W_s (rfl : (pj lw).1 33 14 = some (.aload_n 0, 1, 0)) rfl rfl rfl
theorem w33_15 {a : Nat} : W (pj lw) 33 15 L (.ref a :: S) k n H Q ↔ (isO H a = true ∧ W (pj lw) 33 18 L (fld H a 10 :: S) k n H Q) := W_getf (rfl : (pj lw).1 33 15 = some (.getfield 22, 3, 10))
theorem w33_18 {x : Int32} {l0 : Slot} : W (pj lw) 33 18 (l0 :: .val (.int x) :: L) S k n H Q ↔ W (pj lw) 33 19 (l0 :: .val (.int x) :: L) (.int x :: S) k n H Q := W_s (rfl : (pj lw).1 33 18 = some (.iload_n 1, 1, 0)) rfl rfl rfl
theorem w33_19 {i : Int32} {a : Nat} : W (pj lw) 33 19 L (.int i :: .ref a :: S) k n H Q ↔ (inA H a .int i = true ∧ W (pj lw) 33 20 L (elt H a i :: S) k n H Q) := W_iaload (rfl : (pj lw).1 33 19 = some (.iaload, 1, 0))
theorem w33_20 {x : Int32} : W (pj lw) 33 20 L (.int x :: S) k n H Q ↔ (if 0 < x then W (pj lw) 33 23 L S k n H Q else W (pj lw) 33 24 L S k n H Q) := W_if_le (rfl : (pj lw).1 33 20 = some (.ifCond .le 4, 3, 0)) rfl
theorem w33_23 : W (pj lw) 33 23 L [] k n H Q ↔ Q none H := W_r (rfl : (pj lw).1 33 23 = some (.return_, 1, 0)) rfl
theorem w33_24 {x : Nat} : W (pj lw) 33 24 (.val (.ref x) :: L) S k n H Q ↔ W (pj lw) 33 25 (.val (.ref x) :: L) (.ref x :: S) k n H Q := W_s (rfl : (pj lw).1 33 24 = some (.aload_n 0, 1, 0)) rfl rfl rfl
theorem w33_25 {a : Nat} : W (pj lw) 33 25 L (.ref a :: S) k n H Q ↔ (isO H a = true ∧ W (pj lw) 33 28 L (fld H a 8 :: S) k n H Q) := W_getf (rfl : (pj lw).1 33 25 = some (.getfield 16, 3, 8))
theorem w33_28 {x : Int32} {l0 : Slot} : W (pj lw) 33 28 (l0 :: .val (.int x) :: L) S k n H Q ↔ W (pj lw) 33 29 (l0 :: .val (.int x) :: L) (.int x :: S) k n H Q := W_s (rfl : (pj lw).1 33 28 = some (.iload_n 1, 1, 0)) rfl rfl rfl
theorem w33_29 {i : Int32} {a : Nat} : W (pj lw) 33 29 L (.int i :: .ref a :: S) k n H Q ↔ (inA H a .int i = true ∧ W (pj lw) 33 30 L (elt H a i :: S) k n H Q) := W_iaload (rfl : (pj lw).1 33 29 = some (.iaload, 1, 0))
theorem w33_30 {x : Int32} {l0 l1 : Slot} : W (pj lw) 33 30 (l0 :: l1 :: .unset :: L) (.int x :: S) k n H Q ↔ W (pj lw) 33 31 (l0 :: l1 :: .val (.int x) :: L) S k n H Q := W_istn (rfl : (pj lw).1 33 30 = some (.istore_n 2, 1, 0)) rfl rfl
theorem w33_31 {x : Nat} : W (pj lw) 33 31 (.val (.ref x) :: L) S k n H Q ↔ W (pj lw) 33 32 (.val (.ref x) :: L) (.ref x :: S) k n H Q := W_s (rfl : (pj lw).1 33 31 = some (.aload_n 0, 1, 0)) rfl rfl rfl
theorem w33_32 {a : Nat} : W (pj lw) 33 32 L (.ref a :: S) k n H Q ↔ (isO H a = true ∧ W (pj lw) 33 35 L (fld H a 6 :: S) k n H Q) := W_getf (rfl : (pj lw).1 33 32 = some (.getfield 7, 3, 6))
theorem w33_35 {x : Int32} {l0 : Slot} : W (pj lw) 33 35 (l0 :: .val (.int x) :: L) S k n H Q ↔ W (pj lw) 33 36 (l0 :: .val (.int x) :: L) (.int x :: S) k n H Q := W_s (rfl : (pj lw).1 33 35 = some (.iload_n 1, 1, 0)) rfl rfl rfl
theorem w33_36 {i : Int32} {a : Nat} : W (pj lw) 33 36 L (.int i :: .ref a :: S) k n H Q ↔ (inA H a .int i = true ∧ W (pj lw) 33 37 L (elt H a i :: S) k n H Q) := W_iaload (rfl : (pj lw).1 33 36 = some (.iaload, 1, 0))
theorem w33_37 {x : Int32} {l0 l1 : Slot} : W (pj lw) 33 37 (l0 :: l1 :: .val (.int x) :: L) S k n H Q ↔ W (pj lw) 33 38 (l0 :: l1 :: .val (.int x) :: L) (.int x :: S) k n H Q := W_s (rfl : (pj lw).1 33 37 = some (.iload_n 2, 1, 0)) rfl rfl rfl
theorem w33_38 {x y : Int32} : W (pj lw) 33 38 L (.int y :: .int x :: S) k n H Q ↔ W (pj lw) 33 39 L (.int (x + y) :: S) k n H Q := W_s (rfl : (pj lw).1 33 38 = some (.iadd, 1, 0)) rfl rfl rfl
theorem w33_39 {x : Int32} {l0 l1 l2 : Slot} : W (pj lw) 33 39 (l0 :: l1 :: l2 :: .unset :: L) (.int x :: S) k n H Q ↔ W (pj lw) 33 40 (l0 :: l1 :: l2 :: .val (.int x) :: L) S k n H Q := W_istn (rfl : (pj lw).1 33 39 = some (.istore_n 3, 1, 0)) rfl rfl
theorem w33_40 {x : Nat} : W (pj lw) 33 40 (.val (.ref x) :: L) S k n H Q ↔ W (pj lw) 33 41 (.val (.ref x) :: L) (.ref x :: S) k n H Q := W_s (rfl : (pj lw).1 33 40 = some (.aload_n 0, 1, 0)) rfl rfl rfl
theorem w33_41 {a : Nat} : W (pj lw) 33 41 L (.ref a :: S) k n H Q ↔ (isO H a = true ∧ W (pj lw) 33 44 L (fld H a 6 :: S) k n H Q) := W_getf (rfl : (pj lw).1 33 41 = some (.getfield 7, 3, 6))
theorem w33_44 {x : Int32} {l0 : Slot} : W (pj lw) 33 44 (l0 :: .val (.int x) :: L) S k n H Q ↔ W (pj lw) 33 45 (l0 :: .val (.int x) :: L) (.int x :: S) k n H Q := W_s (rfl : (pj lw).1 33 44 = some (.iload_n 1, 1, 0)) rfl rfl rfl
theorem w33_45 {x : Int32} {l0 l1 l2 : Slot} : W (pj lw) 33 45 (l0 :: l1 :: l2 :: .val (.int x) :: L) S k n H Q ↔ W (pj lw) 33 46 (l0 :: l1 :: l2 :: .val (.int x) :: L) (.int x :: S) k n H Q := W_s (rfl : (pj lw).1 33 45 = some (.iload_n 3, 1, 0)) rfl rfl rfl
theorem w33_46 {x i : Int32} {a : Nat} : W (pj lw) 33 46 L (.int x :: .int i :: .ref a :: S) k n H Q ↔ (inAw H a .int i = true ∧ W (pj lw) 33 47 L S k n (wr H a i.toNatClampNeg (.int x)) Q) := W_iastore (rfl : (pj lw).1 33 46 = some (.iastore, 1, 0))
theorem w33_47 {x : Nat} : W (pj lw) 33 47 (.val (.ref x) :: L) S k n H Q ↔ W (pj lw) 33 48 (.val (.ref x) :: L) (.ref x :: S) k n H Q := W_s (rfl : (pj lw).1 33 47 = some (.aload_n 0, 1, 0)) rfl rfl rfl
theorem w33_48 {x : Int32} {l0 : Slot} : W (pj lw) 33 48 (l0 :: .val (.int x) :: L) S k n H Q ↔ W (pj lw) 33 49 (l0 :: .val (.int x) :: L) (.int x :: S) k n H Q := W_s (rfl : (pj lw).1 33 48 = some (.iload_n 1, 1, 0)) rfl rfl rfl
theorem w33_49 {x : Int32} {l0 l1 : Slot} : W (pj lw) 33 49 (l0 :: l1 :: .val (.int x) :: L) S k n H Q ↔ W (pj lw) 33 50 (l0 :: l1 :: .val (.int x) :: L) (.int x :: S) k n H Q := W_s (rfl : (pj lw).1 33 49 = some (.iload_n 2, 1, 0)) rfl rfl rfl
theorem w33_50 {a : Nat} {x0 : Int32} {x1 : Int32} : W (pj lw) 33 50 L (.int x1 :: .int x0 :: .ref a :: S) k n H Q ↔ ((isO H a = true ∧ cs S + (6 + 11) + 57 ≤ 74) ∧ Cl (pj lw) 23 [.ref a, .int x0, .int x1] H (fun v H => W (pj lw) 33 53 L (v.toList ++ S) k n H Q)) := W_inst (as := [.int x0, .int x1]) (rfl : (pj lw).1 33 50 = some (.invokevirtual 104, 3, 23)) rfl rfl rfl (Nat.le_of_ble_eq_true rfl) (Nat.le_of_ble_eq_true rfl) ⟨rfl, rfl⟩
theorem w33_53 {x : Int32} {l0 l1 l2 l3 : Slot} : W (pj lw) 33 53 (l0 :: l1 :: l2 :: l3 :: .unset :: L) (.int x :: S) k n H Q ↔ W (pj lw) 33 55 (l0 :: l1 :: l2 :: l3 :: .val (.int x) :: L) S k n H Q := W_ist (rfl : (pj lw).1 33 53 = some (.istore 4, 2, 0)) rfl rfl
theorem w33_55 {x : Nat} : W (pj lw) 33 55 (.val (.ref x) :: L) S k n H Q ↔ W (pj lw) 33 56 (.val (.ref x) :: L) (.ref x :: S) k n H Q := W_s (rfl : (pj lw).1 33 55 = some (.aload_n 0, 1, 0)) rfl rfl rfl
theorem w33_56 {x : Int32} {l0 : Slot} : W (pj lw) 33 56 (l0 :: .val (.int x) :: L) S k n H Q ↔ W (pj lw) 33 57 (l0 :: .val (.int x) :: L) (.int x :: S) k n H Q := W_s (rfl : (pj lw).1 33 56 = some (.iload_n 1, 1, 0)) rfl rfl rfl
theorem w33_57 {x : Int32} {l0 l1 l2 : Slot} : W (pj lw) 33 57 (l0 :: l1 :: l2 :: .val (.int x) :: L) S k n H Q ↔ W (pj lw) 33 58 (l0 :: l1 :: l2 :: .val (.int x) :: L) (.int x :: S) k n H Q := W_s (rfl : (pj lw).1 33 57 = some (.iload_n 3, 1, 0)) rfl rfl rfl
theorem w33_58 {a : Nat} {x0 : Int32} {x1 : Int32} : W (pj lw) 33 58 L (.int x1 :: .int x0 :: .ref a :: S) k n H Q ↔ ((isO H a = true ∧ cs S + (4 + 11) + 0 ≤ 74) ∧ Cl (pj lw) 21 [.ref a, .int x0, .int x1] H (fun v H => W (pj lw) 33 61 L (v.toList ++ S) k n H Q)) := W_inst (as := [.int x0, .int x1]) (rfl : (pj lw).1 33 58 = some (.invokevirtual 94, 3, 21)) rfl rfl rfl (Nat.le_of_ble_eq_true rfl) (Nat.le_of_ble_eq_true rfl) ⟨rfl, rfl⟩
theorem w33_61 {x : Int32} : W (pj lw) 33 61 L (.int x :: S) k n H Q ↔ (if x = 0 then W (pj lw) 33 64 L S k n H Q else W (pj lw) 33 98 L S k n H Q) := W_if_ne (rfl : (pj lw).1 33 61 = some (.ifCond .ne 37, 3, 0)) rfl
theorem w33_64 {x : Nat} : W (pj lw) 33 64 (.val (.ref x) :: L) S k n H Q ↔ W (pj lw) 33 65 (.val (.ref x) :: L) (.ref x :: S) k n H Q := W_s (rfl : (pj lw).1 33 64 = some (.aload_n 0, 1, 0)) rfl rfl rfl
theorem w33_65 {x : Int32} {l0 : Slot} : W (pj lw) 33 65 (l0 :: .val (.int x) :: L) S k n H Q ↔ W (pj lw) 33 66 (l0 :: .val (.int x) :: L) (.int x :: S) k n H Q := W_s (rfl : (pj lw).1 33 65 = some (.iload_n 1, 1, 0)) rfl rfl rfl
theorem w33_66 {a : Nat} {x0 : Int32} : W (pj lw) 33 66 L (.int x0 :: .ref a :: S) k n H Q ↔ ((isO H a = true ∧ cs S + (2 + 11) + 0 ≤ 74) ∧ Cl (pj lw) 24 [.ref a, .int x0] H (fun v H => W (pj lw) 33 69 L (v.toList ++ S) k n H Q)) := W_inst (as := [.int x0]) (rfl : (pj lw).1 33 66 = some (.invokevirtual 139, 3, 24)) rfl rfl rfl (Nat.le_of_ble_eq_true rfl) (Nat.le_of_ble_eq_true rfl) ⟨rfl, rfl⟩
theorem w33_69 {x : Int32} : W (pj lw) 33 69 L (.int x :: S) k n H Q ↔ (if x = 0 then W (pj lw) 33 82 L S k n H Q else W (pj lw) 33 72 L S k n H Q) := W_if_eq (rfl : (pj lw).1 33 69 = some (.ifCond .eq 13, 3, 0)) rfl
theorem w33_72 {x : Nat} : W (pj lw) 33 72 (.val (.ref x) :: L) S k n H Q ↔ W (pj lw) 33 73 (.val (.ref x) :: L) (.ref x :: S) k n H Q := W_s (rfl : (pj lw).1 33 72 = some (.aload_n 0, 1, 0)) rfl rfl rfl
theorem w33_73 {x : Int32} {l0 l1 l2 : Slot} : W (pj lw) 33 73 (l0 :: l1 :: l2 :: .val (.int x) :: L) S k n H Q ↔ W (pj lw) 33 74 (l0 :: l1 :: l2 :: .val (.int x) :: L) (.int x :: S) k n H Q := W_s (rfl : (pj lw).1 33 73 = some (.iload_n 3, 1, 0)) rfl rfl rfl
theorem w33_74 {x : Int32} {l0 l1 : Slot} : W (pj lw) 33 74 (l0 :: l1 :: .val (.int x) :: L) S k n H Q ↔ W (pj lw) 33 75 (l0 :: l1 :: .val (.int x) :: L) (.int x :: S) k n H Q := W_s (rfl : (pj lw).1 33 74 = some (.iload_n 2, 1, 0)) rfl rfl rfl
theorem w33_75 {x : Int32} {l0 : Slot} : W (pj lw) 33 75 (l0 :: .val (.int x) :: L) S k n H Q ↔ W (pj lw) 33 76 (l0 :: .val (.int x) :: L) (.int x :: S) k n H Q := W_s (rfl : (pj lw).1 33 75 = some (.iload_n 1, 1, 0)) rfl rfl rfl
theorem w33_76 {a : Nat} {x0 : Int32} {x1 : Int32} {x2 : Int32} : W (pj lw) 33 76 L (.int x2 :: .int x1 :: .int x0 :: .ref a :: S) k n H Q ↔ ((isO H a = true ∧ cs S + (4 + 11) + 28 ≤ 74) ∧ Cl (pj lw) 20 [.ref a, .int x0, .int x1, .int x2] H (fun v H => W (pj lw) 33 79 L (v.toList ++ S) k n H Q)) := W_inst (as := [.int x0, .int x1, .int x2]) (rfl : (pj lw).1 33 76 = some (.invokevirtual 97, 3, 20)) rfl rfl rfl (Nat.le_of_ble_eq_true rfl) (Nat.le_of_ble_eq_true rfl) ⟨rfl, rfl⟩
theorem w33_79 {x : Int32} : W (pj lw) 33 79 L (.int x :: S) k n H Q ↔ (if x = 0 then W (pj lw) 33 82 L S k n H Q else W (pj lw) 33 98 L S k n H Q) := W_if_ne (rfl : (pj lw).1 33 79 = some (.ifCond .ne 19, 3, 0)) rfl
theorem w33_82 {x : Int32} {l0 l1 l2 l3 : Slot} : W (pj lw) 33 82 (l0 :: l1 :: l2 :: l3 :: .val (.int x) :: L) S k n H Q ↔ W (pj lw) 33 84 (l0 :: l1 :: l2 :: l3 :: .val (.int x) :: L) (.int x :: S) k n H Q := W_s (rfl : (pj lw).1 33 82 = some (.iload 4, 2, 0)) rfl rfl rfl
theorem w33_84 {x : Int32} : W (pj lw) 33 84 L (.int x :: S) k n H Q ↔ (if x = 0 then W (pj lw) 33 87 L S k n H Q else W (pj lw) 33 102 L S k n H Q) := W_if_ne (rfl : (pj lw).1 33 84 = some (.ifCond .ne 18, 3, 0)) rfl
theorem w33_87 {x : Nat} : W (pj lw) 33 87 (.val (.ref x) :: L) S k n H Q ↔ W (pj lw) 33 88 (.val (.ref x) :: L) (.ref x :: S) k n H Q := W_s (rfl : (pj lw).1 33 87 = some (.aload_n 0, 1, 0)) rfl rfl rfl
theorem w33_88 {x : Int32} {l0 l1 l2 : Slot} : W (pj lw) 33 88 (l0 :: l1 :: l2 :: .val (.int x) :: L) S k n H Q ↔ W (pj lw) 33 89 (l0 :: l1 :: l2 :: .val (.int x) :: L) (.int x :: S) k n H Q := W_s (rfl : (pj lw).1 33 88 = some (.iload_n 3, 1, 0)) rfl rfl rfl
theorem w33_89 {x : Int32} {l0 l1 : Slot} : W (pj lw) 33 89 (l0 :: l1 :: .val (.int x) :: L) S k n H Q ↔ W (pj lw) 33 90 (l0 :: l1 :: .val (.int x) :: L) (.int x :: S) k n H Q := W_s (rfl : (pj lw).1 33 89 = some (.iload_n 2, 1, 0)) rfl rfl rfl
theorem w33_90 {x : Int32} : W (pj lw) 33 90 L (.int x :: S) k n H Q ↔ W (pj lw) 33 91 L (.int (-x) :: S) k n H Q := W_s (rfl : (pj lw).1 33 90 = some (.ineg, 1, 0)) rfl rfl rfl
theorem w33_91 {x : Int32} {l0 : Slot} : W (pj lw) 33 91 (l0 :: .val (.int x) :: L) S k n H Q ↔ W (pj lw) 33 92 (l0 :: .val (.int x) :: L) (.int x :: S) k n H Q := W_s (rfl : (pj lw).1 33 91 = some (.iload_n 1, 1, 0)) rfl rfl rfl
theorem w33_92 {a : Nat} {x0 : Int32} {x1 : Int32} {x2 : Int32} : W (pj lw) 33 92 L (.int x2 :: .int x1 :: .int x0 :: .ref a :: S) k n H Q ↔ ((isO H a = true ∧ cs S + (4 + 11) + 28 ≤ 74) ∧ Cl (pj lw) 20 [.ref a, .int x0, .int x1, .int x2] H (fun v H => W (pj lw) 33 95 L (v.toList ++ S) k n H Q)) := W_inst (as := [.int x0, .int x1, .int x2]) (rfl : (pj lw).1 33 92 = some (.invokevirtual 97, 3, 20)) rfl rfl rfl (Nat.le_of_ble_eq_true rfl) (Nat.le_of_ble_eq_true rfl) ⟨rfl, rfl⟩
theorem w33_95 {x : Int32} : W (pj lw) 33 95 L (.int x :: S) k n H Q ↔ (if x = 0 then W (pj lw) 33 102 L S k n H Q else W (pj lw) 33 98 L S k n H Q) := W_if_eq (rfl : (pj lw).1 33 95 = some (.ifCond .eq 7, 3, 0)) rfl
theorem w33_98 : W (pj lw) 33 98 L S k n H Q ↔ W (pj lw) 33 99 L (.int 1 :: S) k n H Q := W_s (rfl : (pj lw).1 33 98 = some (.iconst 1, 1, 0)) rfl rfl rfl
theorem w33_99 : W (pj lw) 33 99 L S k n H Q ↔ W (pj lw) 33 103 L S k n H Q := W_goto (rfl : (pj lw).1 33 99 = some (.goto 4, 3, 0)) rfl
theorem w33_102 : W (pj lw) 33 102 L S k n H Q ↔ W (pj lw) 33 103 L (.int 0 :: S) k n H Q := W_s (rfl : (pj lw).1 33 102 = some (.iconst 0, 1, 0)) rfl rfl rfl
theorem w33_103 {x : Int32} {l0 l1 l2 l3 l4 : Slot} : W (pj lw) 33 103 (l0 :: l1 :: l2 :: l3 :: l4 :: .unset :: L) (.int x :: S) k n H Q ↔ W (pj lw) 33 105 (l0 :: l1 :: l2 :: l3 :: l4 :: .val (.int x) :: L) S k n H Q := W_ist (rfl : (pj lw).1 33 103 = some (.istore 5, 2, 0)) rfl rfl
theorem w33_105 {x : Int32} {l0 l1 l2 l3 l4 : Slot} : W (pj lw) 33 105 (l0 :: l1 :: l2 :: l3 :: l4 :: .val (.int x) :: L) S k n H Q ↔ W (pj lw) 33 107 (l0 :: l1 :: l2 :: l3 :: l4 :: .val (.int x) :: L) (.int x :: S) k n H Q := W_s (rfl : (pj lw).1 33 105 = some (.iload 5, 2, 0)) rfl rfl rfl
theorem w33_107 {x : Int32} : W (pj lw) 33 107 L (.int x :: S) k n H Q ↔ (if x = 0 then W (pj lw) 33 127 L S k n H Q else W (pj lw) 33 110 L S k n H Q) := W_if_eq (rfl : (pj lw).1 33 107 = some (.ifCond .eq 20, 3, 0)) rfl
theorem w33_110 {x : Nat} : W (pj lw) 33 110 (.val (.ref x) :: L) S k n H Q ↔ W (pj lw) 33 111 (.val (.ref x) :: L) (.ref x :: S) k n H Q := W_s (rfl : (pj lw).1 33 110 = some (.aload_n 0, 1, 0)) rfl rfl rfl
theorem w33_111 {a : Nat} : W (pj lw) 33 111 L (.ref a :: S) k n H Q ↔ (isO H a = true ∧ W (pj lw) 33 114 L (fld H a 7 :: S) k n H Q) := W_getf (rfl : (pj lw).1 33 111 = some (.getfield 13, 3, 7))
theorem w33_114 {x : Int32} {l0 : Slot} : W (pj lw) 33 114 (l0 :: .val (.int x) :: L) S k n H Q ↔ W (pj lw) 33 115 (l0 :: .val (.int x) :: L) (.int x :: S) k n H Q := W_s (rfl : (pj lw).1 33 114 = some (.iload_n 1, 1, 0)) rfl rfl rfl
theorem w33_115 : W (pj lw) 33 115 L S k n H Q ↔ W (pj lw) 33 116 L (.int 1 :: S) k n H Q := W_s (rfl : (pj lw).1 33 115 = some (.iconst 1, 1, 0)) rfl rfl rfl
theorem w33_116 {x i : Int32} {a : Nat} : W (pj lw) 33 116 L (.int x :: .int i :: .ref a :: S) k n H Q ↔ (inAw H a .int i = true ∧ W (pj lw) 33 117 L S k n (wr H a i.toNatClampNeg (.int x)) Q) := W_iastore (rfl : (pj lw).1 33 116 = some (.iastore, 1, 0))
theorem w33_117 {x : Nat} : W (pj lw) 33 117 (.val (.ref x) :: L) S k n H Q ↔ W (pj lw) 33 118 (.val (.ref x) :: L) (.ref x :: S) k n H Q := W_s (rfl : (pj lw).1 33 117 = some (.aload_n 0, 1, 0)) rfl rfl rfl
theorem w33_118 {a : Nat} : W (pj lw) 33 118 L (.ref a :: S) k n H Q ↔ (isO H a = true ∧ W (pj lw) 33 121 L (fld H a 10 :: S) k n H Q) := W_getf (rfl : (pj lw).1 33 118 = some (.getfield 22, 3, 10))
theorem w33_121 {x : Int32} {l0 : Slot} : W (pj lw) 33 121 (l0 :: .val (.int x) :: L) S k n H Q ↔ W (pj lw) 33 122 (l0 :: .val (.int x) :: L) (.int x :: S) k n H Q := W_s (rfl : (pj lw).1 33 121 = some (.iload_n 1, 1, 0)) rfl rfl rfl
theorem w33_122 : W (pj lw) 33 122 L S k n H Q ↔ W (pj lw) 33 123 L (.int 3 :: S) k n H Q := W_s (rfl : (pj lw).1 33 122 = some (.iconst 3, 1, 0)) rfl rfl rfl
theorem w33_123 {x i : Int32} {a : Nat} : W (pj lw) 33 123 L (.int x :: .int i :: .ref a :: S) k n H Q ↔ (inAw H a .int i = true ∧ W (pj lw) 33 124 L S k n (wr H a i.toNatClampNeg (.int x)) Q) := W_iastore (rfl : (pj lw).1 33 123 = some (.iastore, 1, 0))
theorem w33_124 : W (pj lw) 33 124 L S k n H Q ↔ W (pj lw) 33 156 L S k n H Q := W_goto (rfl : (pj lw).1 33 124 = some (.goto 32, 3, 0)) rfl
theorem w33_127 {x : Int32} {l0 l1 l2 l3 : Slot} : W (pj lw) 33 127 (l0 :: l1 :: l2 :: l3 :: .val (.int x) :: L) S k n H Q ↔ W (pj lw) 33 129 (l0 :: l1 :: l2 :: l3 :: .val (.int x) :: L) (.int x :: S) k n H Q := W_s (rfl : (pj lw).1 33 127 = some (.iload 4, 2, 0)) rfl rfl rfl
theorem w33_129 {x : Int32} : W (pj lw) 33 129 L (.int x :: S) k n H Q ↔ (if x = 0 then W (pj lw) 33 142 L S k n H Q else W (pj lw) 33 132 L S k n H Q) := W_if_eq (rfl : (pj lw).1 33 129 = some (.ifCond .eq 13, 3, 0)) rfl
theorem w33_132 {x : Nat} : W (pj lw) 33 132 (.val (.ref x) :: L) S k n H Q ↔ W (pj lw) 33 133 (.val (.ref x) :: L) (.ref x :: S) k n H Q := W_s (rfl : (pj lw).1 33 132 = some (.aload_n 0, 1, 0)) rfl rfl rfl
theorem w33_133 {a : Nat} : W (pj lw) 33 133 L (.ref a :: S) k n H Q ↔ (isO H a = true ∧ W (pj lw) 33 136 L (fld H a 10 :: S) k n H Q) := W_getf (rfl : (pj lw).1 33 133 = some (.getfield 22, 3, 10))
theorem w33_136 {x : Int32} {l0 : Slot} : W (pj lw) 33 136 (l0 :: .val (.int x) :: L) S k n H Q ↔ W (pj lw) 33 137 (l0 :: .val (.int x) :: L) (.int x :: S) k n H Q := W_s (rfl : (pj lw).1 33 136 = some (.iload_n 1, 1, 0)) rfl rfl rfl
theorem w33_137 : W (pj lw) 33 137 L S k n H Q ↔ W (pj lw) 33 138 L (.int 2 :: S) k n H Q := W_s (rfl : (pj lw).1 33 137 = some (.iconst 2, 1, 0)) rfl rfl rfl
theorem w33_138 {x i : Int32} {a : Nat} : W (pj lw) 33 138 L (.int x :: .int i :: .ref a :: S) k n H Q ↔ (inAw H a .int i = true ∧ W (pj lw) 33 139 L S k n (wr H a i.toNatClampNeg (.int x)) Q) := W_iastore (rfl : (pj lw).1 33 138 = some (.iastore, 1, 0))
theorem w33_139 : W (pj lw) 33 139 L S k n H Q ↔ W (pj lw) 33 156 L S k n H Q := W_goto (rfl : (pj lw).1 33 139 = some (.goto 17, 3, 0)) rfl
theorem w33_142 {x : Nat} : W (pj lw) 33 142 (.val (.ref x) :: L) S k n H Q ↔ W (pj lw) 33 143 (.val (.ref x) :: L) (.ref x :: S) k n H Q := W_s (rfl : (pj lw).1 33 142 = some (.aload_n 0, 1, 0)) rfl rfl rfl
theorem w33_143 {a : Nat} : W (pj lw) 33 143 L (.ref a :: S) k n H Q ↔ (isO H a = true ∧ W (pj lw) 33 146 L (fld H a 7 :: S) k n H Q) := W_getf (rfl : (pj lw).1 33 143 = some (.getfield 13, 3, 7))
theorem w33_146 {x : Int32} {l0 : Slot} : W (pj lw) 33 146 (l0 :: .val (.int x) :: L) S k n H Q ↔ W (pj lw) 33 147 (l0 :: .val (.int x) :: L) (.int x :: S) k n H Q := W_s (rfl : (pj lw).1 33 146 = some (.iload_n 1, 1, 0)) rfl rfl rfl
theorem w33_147 : W (pj lw) 33 147 L S k n H Q ↔ W (pj lw) 33 148 L (.int 0 :: S) k n H Q := W_s (rfl : (pj lw).1 33 147 = some (.iconst 0, 1, 0)) rfl rfl rfl
theorem w33_148 {x i : Int32} {a : Nat} : W (pj lw) 33 148 L (.int x :: .int i :: .ref a :: S) k n H Q ↔ (inAw H a .int i = true ∧ W (pj lw) 33 149 L S k n (wr H a i.toNatClampNeg (.int x)) Q) := W_iastore (rfl : (pj lw).1 33 148 = some (.iastore, 1, 0))
theorem w33_149 {x : Nat} : W (pj lw) 33 149 (.val (.ref x) :: L) S k n H Q ↔ W (pj lw) 33 150 (.val (.ref x) :: L) (.ref x :: S) k n H Q := W_s (rfl : (pj lw).1 33 149 = some (.aload_n 0, 1, 0)) rfl rfl rfl
theorem w33_150 {a : Nat} : W (pj lw) 33 150 L (.ref a :: S) k n H Q ↔ (isO H a = true ∧ W (pj lw) 33 153 L (fld H a 10 :: S) k n H Q) := W_getf (rfl : (pj lw).1 33 150 = some (.getfield 22, 3, 10))
theorem w33_153 {x : Int32} {l0 : Slot} : W (pj lw) 33 153 (l0 :: .val (.int x) :: L) S k n H Q ↔ W (pj lw) 33 154 (l0 :: .val (.int x) :: L) (.int x :: S) k n H Q := W_s (rfl : (pj lw).1 33 153 = some (.iload_n 1, 1, 0)) rfl rfl rfl
theorem w33_154 : W (pj lw) 33 154 L S k n H Q ↔ W (pj lw) 33 155 L (.int 0 :: S) k n H Q := W_s (rfl : (pj lw).1 33 154 = some (.iconst 0, 1, 0)) rfl rfl rfl
theorem w33_155 {x i : Int32} {a : Nat} : W (pj lw) 33 155 L (.int x :: .int i :: .ref a :: S) k n H Q ↔ (inAw H a .int i = true ∧ W (pj lw) 33 156 L S k n (wr H a i.toNatClampNeg (.int x)) Q) := W_iastore (rfl : (pj lw).1 33 155 = some (.iastore, 1, 0))
theorem w33_156 : W (pj lw) 33 156 L [] k n H Q ↔ Q none H := W_r (rfl : (pj lw).1 33 156 = some (.return_, 1, 0)) rfl
theorem c34 {x0 : Nat} {x1 : Int32} : Cl (pj lw) 34 [.ref x0, .int x1] H Q ↔ W (pj lw) 34 0 [.val (.ref x0), .val (.int x1), .unset, .unset, .unset] [] 0 0 H Q := cl_unf rfl
theorem w34_0 {x : Nat} : W (pj lw) 34 0 (.val (.ref x) :: L) S k n H Q ↔ W (pj lw) 34 1 (.val (.ref x) :: L) (.ref x :: S) k n H Q := W_s (rfl : (pj lw).1 34 0 = some (.aload_n 0, 1, 0)) rfl rfl rfl
theorem w34_1 {x : Int32} {l0 : Slot} : W (pj lw) 34 1 (l0 :: .val (.int x) :: L) S k n H Q ↔ W (pj lw) 34 2 (l0 :: .val (.int x) :: L) (.int x :: S) k n H Q := W_s (rfl : (pj lw).1 34 1 = some (.iload_n 1, 1, 0)) rfl rfl rfl
theorem w34_2 {a : Nat} {x0 : Int32} : W (pj lw) 34 2 L (.int x0 :: .ref a :: S) k n H Q ↔ ((isO H a = true ∧ cs S + (5 + 11) + 0 ≤ 89) ∧ Cl (pj lw) 35 [.ref a, .int x0] H (fun v H => W (pj lw) 34 5 L (v.toList ++ S) k n H Q)) := W_inst (as := [.int x0]) (rfl : (pj lw).1 34 2 = some (.invokevirtual 143, 3, 35)) rfl rfl rfl (Nat.le_of_ble_eq_true rfl) (Nat.le_of_ble_eq_true rfl) ⟨rfl, rfl⟩
theorem w34_5 {x : Int32} {l0 l1 : Slot} : W (pj lw) 34 5 (l0 :: l1 :: .unset :: L) (.int x :: S) k n H Q ↔ W (pj lw) 34 6 (l0 :: l1 :: .val (.int x) :: L) S k n H Q := W_istn (rfl : (pj lw).1 34 5 = some (.istore_n 2, 1, 0)) rfl rfl
theorem w34_6 {x : Nat} : W (pj lw) 34 6 (.val (.ref x) :: L) S k n H Q ↔ W (pj lw) 34 7 (.val (.ref x) :: L) (.ref x :: S) k n H Q := W_s (rfl : (pj lw).1 34 6 = some (.aload_n 0, 1, 0)) rfl rfl rfl
theorem w34_7 {x : Int32} {l0 : Slot} : W (pj lw) 34 7 (l0 :: .val (.int x) :: L) S k n H Q ↔ W (pj lw) 34 8 (l0 :: .val (.int x) :: L) (.int x :: S) k n H Q := W_s (rfl : (pj lw).1 34 7 = some (.iload_n 1, 1, 0)) rfl rfl rfl
theorem w34_8 {a : Nat} {x0 : Int32} : W (pj lw) 34 8 L (.int x0 :: .ref a :: S) k n H Q ↔ ((isO H a = true ∧ cs S + (4 + 11) + 74 ≤ 89) ∧ Cl (pj lw) 25 [.ref a, .int x0] H (fun v H => W (pj lw) 34 11 L (v.toList ++ S) k n H Q)) := W_inst (as := [.int x0]) (rfl : (pj lw).1 34 8 = some (.invokevirtual 136, 3, 25)) rfl rfl rfl (Nat.le_of_ble_eq_true rfl) (Nat.le_of_ble_eq_true rfl) ⟨rfl, rfl⟩
theorem w34_11 {x : Int32} {l0 l1 l2 : Slot} : W (pj lw) 34 11 (l0 :: l1 :: l2 :: .unset :: L) (.int x :: S) k n H Q ↔ W (pj lw) 34 12 (l0 :: l1 :: l2 :: .val (.int x) :: L) S k n H Q := W_istn (rfl : (pj lw).1 34 11 = some (.istore_n 3, 1, 0)) rfl rfl
theorem w34_12 {x : Nat} : W (pj lw) 34 12 (.val (.ref x) :: L) S k n H Q ↔ W (pj lw) 34 13 (.val (.ref x) :: L) (.ref x :: S) k n H Q := W_s (rfl : (pj lw).1 34 12 = some (.aload_n 0, 1, 0)) rfl rfl rfl
theorem w34_13 {a : Nat} : W (pj lw) 34 13 L (.ref a :: S) k n H Q ↔ (isO H a = true ∧ W (pj lw) 34 16 L (fld H a 8 :: S) k n H Q) := W_getf (rfl : (pj lw).1 34 13 = some (.getfield 16, 3, 8))
theorem w34_16 {x : Int32} {l0 : Slot} : W (pj lw) 34 16 (l0 :: .val (.int x) :: L) S k n H Q ↔ W (pj lw) 34 17 (l0 :: .val (.int x) :: L) (.int x :: S) k n H Q := W_s (rfl : (pj lw).1 34 16 = some (.iload_n 1, 1, 0)) rfl rfl rfl
theorem w34_17 {x : Int32} {l0 l1 l2 : Slot} : W (pj lw) 34 17 (l0 :: l1 :: l2 :: .val (.int x) :: L) S k n H Q ↔ W (pj lw) 34 18 (l0 :: l1 :: l2 :: .val (.int x) :: L) (.int x :: S) k n H Q := W_s (rfl : (pj lw).1 34 17 = some (.iload_n 3, 1, 0)) rfl rfl rfl
theorem w34_18 {x i : Int32} {a : Nat} : W (pj lw) 34 18 L (.int x :: .int i :: .ref a :: S) k n H Q ↔ (inAw H a .int i = true ∧ W (pj lw) 34 19 L S k n (wr H a i.toNatClampNeg (.int x)) Q) := W_iastore (rfl : (pj lw).1 34 18 = some (.iastore, 1, 0))
theorem w34_19 {x : Int32} {l0 l1 l2 : Slot} : W (pj lw) 34 19 (l0 :: l1 :: l2 :: .val (.int x) :: L) S k n H Q ↔ W (pj lw) 34 20 (l0 :: l1 :: l2 :: .val (.int x) :: L) (.int x :: S) k n H Q := W_s (rfl : (pj lw).1 34 19 = some (.iload_n 3, 1, 0)) rfl rfl rfl
theorem w34_20 {x : Int32} : W (pj lw) 34 20 L (.int x :: S) k n H Q ↔ (if x = 0 then W (pj lw) 34 46 L S k n H Q else W (pj lw) 34 23 L S k n H Q) := W_if_eq (rfl : (pj lw).1 34 20 = some (.ifCond .eq 26, 3, 0)) rfl
theorem w34_23 {x : Nat} : W (pj lw) 34 23 (.val (.ref x) :: L) S k n H Q ↔ W (pj lw) 34 24 (.val (.ref x) :: L) (.ref x :: S) k n H Q := W_s (rfl : (pj lw).1 34 23 = some (.aload_n 0, 1, 0)) rfl rfl rfl
theorem w34_24 {x : Int32} {l0 : Slot} : W (pj lw) 34 24 (l0 :: .val (.int x) :: L) S k n H Q ↔ W (pj lw) 34 25 (l0 :: .val (.int x) :: L) (.int x :: S) k n H Q := W_s (rfl : (pj lw).1 34 24 = some (.iload_n 1, 1, 0)) rfl rfl rfl
theorem w34_25 {x : Int32} {l0 l1 l2 : Slot} : W (pj lw) 34 25 (l0 :: l1 :: l2 :: .val (.int x) :: L) S k n H Q ↔ W (pj lw) 34 26 (l0 :: l1 :: l2 :: .val (.int x) :: L) (.int x :: S) k n H Q := W_s (rfl : (pj lw).1 34 25 = some (.iload_n 3, 1, 0)) rfl rfl rfl
theorem w34_26 {a : Nat} {x0 : Int32} {x1 : Int32} : W (pj lw) 34 26 L (.int x1 :: .int x0 :: .ref a :: S) k n H Q ↔ ((isO H a = true ∧ cs S + (6 + 11) + 13 ≤ 89) ∧ Cl (pj lw) 36 [.ref a, .int x0, .int x1] H (fun v H => W (pj lw) 34 29 L (v.toList ++ S) k n H Q)) := W_inst (as := [.int x0, .int x1]) (rfl : (pj lw).1 34 26 = some (.invokevirtual 146, 3, 36)) rfl rfl rfl (Nat.le_of_ble_eq_true rfl) (Nat.le_of_ble_eq_true rfl) ⟨rfl, rfl⟩
theorem w34_29 {x : Int32} {l0 l1 l2 l3 : Slot} : W (pj lw) 34 29 (l0 :: l1 :: l2 :: l3 :: .unset :: L) (.int x :: S) k n H Q ↔ W (pj lw) 34 31 (l0 :: l1 :: l2 :: l3 :: .val (.int x) :: L) S k n H Q := W_ist (rfl : (pj lw).1 34 29 = some (.istore 4, 2, 0)) rfl rfl
theorem w34_31 {x : Int32} {l0 l1 : Slot} : W (pj lw) 34 31 (l0 :: l1 :: .val (.int x) :: L) S k n H Q ↔ W (pj lw) 34 32 (l0 :: l1 :: .val (.int x) :: L) (.int x :: S) k n H Q := W_s (rfl : (pj lw).1 34 31 = some (.iload_n 2, 1, 0)) rfl rfl rfl
theorem w34_32 {x : Int32} : W (pj lw) 34 32 L (.int x :: S) k n H Q ↔ (if x = 0 then W (pj lw) 34 35 L S k n H Q else W (pj lw) 34 40 L S k n H Q) := W_if_ne (rfl : (pj lw).1 34 32 = some (.ifCond .ne 8, 3, 0)) rfl
theorem w34_35 {x : Int32} {l0 l1 l2 l3 : Slot} : W (pj lw) 34 35 (l0 :: l1 :: l2 :: l3 :: .val (.int x) :: L) S k n H Q ↔ W (pj lw) 34 37 (l0 :: l1 :: l2 :: l3 :: .val (.int x) :: L) (.int x :: S) k n H Q := W_s (rfl : (pj lw).1 34 35 = some (.iload 4, 2, 0)) rfl rfl rfl
theorem w34_37 {x : Int32} : W (pj lw) 34 37 L (.int x :: S) k n H Q ↔ (if x = 0 then W (pj lw) 34 44 L S k n H Q else W (pj lw) 34 40 L S k n H Q) := W_if_eq (rfl : (pj lw).1 34 37 = some (.ifCond .eq 7, 3, 0)) rfl
theorem w34_40 : W (pj lw) 34 40 L S k n H Q ↔ W (pj lw) 34 41 L (.int 1 :: S) k n H Q := W_s (rfl : (pj lw).1 34 40 = some (.iconst 1, 1, 0)) rfl rfl rfl
theorem w34_41 : W (pj lw) 34 41 L S k n H Q ↔ W (pj lw) 34 45 L S k n H Q := W_goto (rfl : (pj lw).1 34 41 = some (.goto 4, 3, 0)) rfl
theorem w34_44 : W (pj lw) 34 44 L S k n H Q ↔ W (pj lw) 34 45 L (.int 0 :: S) k n H Q := W_s (rfl : (pj lw).1 34 44 = some (.iconst 0, 1, 0)) rfl rfl rfl
theorem w34_45i {y : Int32} {x : Int32} {l0 l1 : Slot} : W (pj lw) 34 45 (l0 :: l1 :: .val (.int y) :: L) (.int x :: S) k n H Q ↔ W (pj lw) 34 46 (l0 :: l1 :: .val (.int x) :: L) S k n H Q := W_istn (rfl : (pj lw).1 34 45 = some (.istore_n 2, 1, 0)) rfl rfl
theorem w34_46 {x : Int32} {l0 l1 : Slot} : W (pj lw) 34 46 (l0 :: l1 :: .val (.int x) :: L) S k n H Q ↔ W (pj lw) 34 47 (l0 :: l1 :: .val (.int x) :: L) (.int x :: S) k n H Q := W_s (rfl : (pj lw).1 34 46 = some (.iload_n 2, 1, 0)) rfl rfl rfl
theorem w34_47 {x : Int32} : W (pj lw) 34 47 L (.int x :: S) k n H Q ↔ (if x = 0 then W (pj lw) 34 60 L S k n H Q else W (pj lw) 34 50 L S k n H Q) := W_if_eq (rfl : (pj lw).1 34 47 = some (.ifCond .eq 13, 3, 0)) rfl
theorem w34_50 {x : Nat} : W (pj lw) 34 50 (.val (.ref x) :: L) S k n H Q ↔ W (pj lw) 34 51 (.val (.ref x) :: L) (.ref x :: S) k n H Q := W_s (rfl : (pj lw).1 34 50 = some (.aload_n 0, 1, 0)) rfl rfl rfl
theorem w34_51 {a : Nat} : W (pj lw) 34 51 L (.ref a :: S) k n H Q ↔ (isO H a = true ∧ W (pj lw) 34 54 L (fld H a 10 :: S) k n H Q) := W_getf (rfl : (pj lw).1 34 51 = some (.getfield 22, 3, 10))
theorem w34_54 {x : Int32} {l0 : Slot} : W (pj lw) 34 54 (l0 :: .val (.int x) :: L) S k n H Q ↔ W (pj lw) 34 55 (l0 :: .val (.int x) :: L) (.int x :: S) k n H Q := W_s (rfl : (pj lw).1 34 54 = some (.iload_n 1, 1, 0)) rfl rfl rfl
theorem w34_55 : W (pj lw) 34 55 L S k n H Q ↔ W (pj lw) 34 56 L (.int 3 :: S) k n H Q := W_s (rfl : (pj lw).1 34 55 = some (.iconst 3, 1, 0)) rfl rfl rfl
theorem w34_56 {x i : Int32} {a : Nat} : W (pj lw) 34 56 L (.int x :: .int i :: .ref a :: S) k n H Q ↔ (inAw H a .int i = true ∧ W (pj lw) 34 57 L S k n (wr H a i.toNatClampNeg (.int x)) Q) := W_iastore (rfl : (pj lw).1 34 56 = some (.iastore, 1, 0))
theorem w34_57 : W (pj lw) 34 57 L S k n H Q ↔ W (pj lw) 34 90 L S k n H Q := W_goto (rfl : (pj lw).1 34 57 = some (.goto 33, 3, 0)) rfl
theorem w34_60 {x : Nat} : W (pj lw) 34 60 (.val (.ref x) :: L) S k n H Q ↔ W (pj lw) 34 61 (.val (.ref x) :: L) (.ref x :: S) k n H Q := W_s (rfl : (pj lw).1 34 60 = some (.aload_n 0, 1, 0)) rfl rfl rfl
theorem w34_61 {a : Nat} : W (pj lw) 34 61 L (.ref a :: S) k n H Q ↔ (isO H a = true ∧ W (pj lw) 34 64 L (fld H a 10 :: S) k n H Q) := W_getf (rfl : (pj lw).1 34 61 = some (.getfield 22, 3, 10))
theorem w34_64 {x : Int32} {l0 : Slot} : W (pj lw) 34 64 (l0 :: .val (.int x) :: L) S k n H Q ↔ W (pj lw) 34 65 (l0 :: .val (.int x) :: L) (.int x :: S) k n H Q := W_s (rfl : (pj lw).1 34 64 = some (.iload_n 1, 1, 0)) rfl rfl rfl
theorem w34_65 {x : Nat} : W (pj lw) 34 65 (.val (.ref x) :: L) S k n H Q ↔ W (pj lw) 34 66 (.val (.ref x) :: L) (.ref x :: S) k n H Q := W_s (rfl : (pj lw).1 34 65 = some (.aload_n 0, 1, 0)) rfl rfl rfl
theorem w34_66 {a : Nat} : W (pj lw) 34 66 L (.ref a :: S) k n H Q ↔ (isO H a = true ∧ W (pj lw) 34 69 L (fld H a 10 :: S) k n H Q) := W_getf (rfl : (pj lw).1 34 66 = some (.getfield 22, 3, 10))
theorem w34_69 {x : Int32} {l0 : Slot} : W (pj lw) 34 69 (l0 :: .val (.int x) :: L) S k n H Q ↔ W (pj lw) 34 70 (l0 :: .val (.int x) :: L) (.int x :: S) k n H Q := W_s (rfl : (pj lw).1 34 69 = some (.iload_n 1, 1, 0)) rfl rfl rfl
theorem w34_70 {i : Int32} {a : Nat} : W (pj lw) 34 70 L (.int i :: .ref a :: S) k n H Q ↔ (inA H a .int i = true ∧ W (pj lw) 34 71 L (elt H a i :: S) k n H Q) := W_iaload (rfl : (pj lw).1 34 70 = some (.iaload, 1, 0))
theorem w34_71 : W (pj lw) 34 71 L S k n H Q ↔ W (pj lw) 34 72 L (.int 1 :: S) k n H Q := W_s (rfl : (pj lw).1 34 71 = some (.iconst 1, 1, 0)) rfl rfl rfl
theorem w34_72 {x y : Int32} : W (pj lw) 34 72 L (.int y :: .int x :: S) k n H Q ↔ W (pj lw) 34 73 L (.int (x - y) :: S) k n H Q := W_s (rfl : (pj lw).1 34 72 = some (.isub, 1, 0)) rfl rfl rfl
theorem w34_73 {x i : Int32} {a : Nat} : W (pj lw) 34 73 L (.int x :: .int i :: .ref a :: S) k n H Q ↔ (inAw H a .int i = true ∧ W (pj lw) 34 74 L S k n (wr H a i.toNatClampNeg (.int x)) Q) := W_iastore (rfl : (pj lw).1 34 73 = some (.iastore, 1, 0))
theorem w34_74 {x : Nat} : W (pj lw) 34 74 (.val (.ref x) :: L) S k n H Q ↔ W (pj lw) 34 75 (.val (.ref x) :: L) (.ref x :: S) k n H Q := W_s (rfl : (pj lw).1 34 74 = some (.aload_n 0, 1, 0)) rfl rfl rfl
theorem w34_75 {a : Nat} : W (pj lw) 34 75 L (.ref a :: S) k n H Q ↔ (isO H a = true ∧ W (pj lw) 34 78 L (fld H a 10 :: S) k n H Q) := W_getf (rfl : (pj lw).1 34 75 = some (.getfield 22, 3, 10))
theorem w34_78 {x : Int32} {l0 : Slot} : W (pj lw) 34 78 (l0 :: .val (.int x) :: L) S k n H Q ↔ W (pj lw) 34 79 (l0 :: .val (.int x) :: L) (.int x :: S) k n H Q := W_s (rfl : (pj lw).1 34 78 = some (.iload_n 1, 1, 0)) rfl rfl rfl
theorem w34_79 {i : Int32} {a : Nat} : W (pj lw) 34 79 L (.int i :: .ref a :: S) k n H Q ↔ (inA H a .int i = true ∧ W (pj lw) 34 80 L (elt H a i :: S) k n H Q) := W_iaload (rfl : (pj lw).1 34 79 = some (.iaload, 1, 0))
theorem w34_80 {x : Int32} : W (pj lw) 34 80 L (.int x :: S) k n H Q ↔ (if x = 0 then W (pj lw) 34 83 L S k n H Q else W (pj lw) 34 90 L S k n H Q) := W_if_ne (rfl : (pj lw).1 34 80 = some (.ifCond .ne 10, 3, 0)) rfl
theorem w34_83 {x : Nat} : W (pj lw) 34 83 (.val (.ref x) :: L) S k n H Q ↔ W (pj lw) 34 84 (.val (.ref x) :: L) (.ref x :: S) k n H Q := W_s (rfl : (pj lw).1 34 83 = some (.aload_n 0, 1, 0)) rfl rfl rfl
theorem w34_84 {a : Nat} : W (pj lw) 34 84 L (.ref a :: S) k n H Q ↔ (isO H a = true ∧ W (pj lw) 34 87 L (fld H a 7 :: S) k n H Q) := W_getf (rfl : (pj lw).1 34 84 = some (.getfield 13, 3, 7))
theorem w34_87 {x : Int32} {l0 : Slot} : W (pj lw) 34 87 (l0 :: .val (.int x) :: L) S k n H Q ↔ W (pj lw) 34 88 (l0 :: .val (.int x) :: L) (.int x :: S) k n H Q := W_s (rfl : (pj lw).1 34 87 = some (.iload_n 1, 1, 0)) rfl rfl rfl
theorem w34_88 : W (pj lw) 34 88 L S k n H Q ↔ W (pj lw) 34 89 L (.int 2 :: S) k n H Q := W_s (rfl : (pj lw).1 34 88 = some (.iconst 2, 1, 0)) rfl rfl rfl
theorem w34_89 {x i : Int32} {a : Nat} : W (pj lw) 34 89 L (.int x :: .int i :: .ref a :: S) k n H Q ↔ (inAw H a .int i = true ∧ W (pj lw) 34 90 L S k n (wr H a i.toNatClampNeg (.int x)) Q) := W_iastore (rfl : (pj lw).1 34 89 = some (.iastore, 1, 0))
theorem w34_90 : W (pj lw) 34 90 L [] k n H Q ↔ Q none H := W_r (rfl : (pj lw).1 34 90 = some (.return_, 1, 0)) rfl
theorem c35 {x0 : Nat} {x1 : Int32} : Cl (pj lw) 35 [.ref x0, .int x1] H Q ↔ W (pj lw) 35 0 [.val (.ref x0), .val (.int x1), .unset, .unset, .unset] [] 0 0 H Q := cl_unf rfl
theorem w35_0 {x : Nat} : W (pj lw) 35 0 (.val (.ref x) :: L) S k n H Q ↔ W (pj lw) 35 1 (.val (.ref x) :: L) (.ref x :: S) k n H Q := W_s (rfl : (pj lw).1 35 0 = some (.aload_n 0, 1, 0)) rfl rfl rfl
theorem w35_1 {a : Nat} : W (pj lw) 35 1 L (.ref a :: S) k n H Q ↔ (isO H a = true ∧ W (pj lw) 35 4 L (fld H a 6 :: S) k n H Q) := W_getf (rfl : (pj lw).1 35 1 = some (.getfield 7, 3, 6))
theorem w35_4 {x : Int32} {l0 : Slot} : W (pj lw) 35 4 (l0 :: .val (.int x) :: L) S k n H Q ↔ W (pj lw) 35 5 (l0 :: .val (.int x) :: L) (.int x :: S) k n H Q := W_s (rfl : (pj lw).1 35 4 = some (.iload_n 1, 1, 0)) rfl rfl rfl
theorem w35_5 {i : Int32} {a : Nat} : W (pj lw) 35 5 L (.int i :: .ref a :: S) k n H Q ↔ (inA H a .int i = true ∧ W (pj lw) 35 6 L (elt H a i :: S) k n H Q) := W_iaload (rfl : (pj lw).1 35 5 = some (.iaload, 1, 0))
theorem w35_6 {x : Int32} {l0 l1 : Slot} : W (pj lw) 35 6 (l0 :: l1 :: .unset :: L) (.int x :: S) k n H Q ↔ W (pj lw) 35 7 (l0 :: l1 :: .val (.int x) :: L) S k n H Q := W_istn (rfl : (pj lw).1 35 6 = some (.istore_n 2, 1, 0)) rfl rfl
theorem w35_7 : W (pj lw) 35 7 L S k n H Q ↔ W (pj lw) 35 8 L (.int 0 :: S) k n H Q := W_s (rfl : (pj lw).1 35 7 = some (.iconst 0, 1, 0)) rfl rfl rfl
theorem w35_8 {x : Int32} {l0 l1 l2 : Slot} : W (pj lw) 35 8 (l0 :: l1 :: l2 :: .unset :: L) (.int x :: S) k n H Q ↔ W (pj lw) 35 9 (l0 :: l1 :: l2 :: .val (.int x) :: L) S k n H Q := W_istn (rfl : (pj lw).1 35 8 = some (.istore_n 3, 1, 0)) rfl rfl
theorem w35_9 : W (pj lw) 35 9 L S k n H Q ↔ W (pj lw) 35 10 L (.int 0 :: S) k n H Q := W_s (rfl : (pj lw).1 35 9 = some (.iconst 0, 1, 0)) rfl rfl rfl
theorem w35_10 {x : Int32} {l0 l1 l2 l3 : Slot} : W (pj lw) 35 10 (l0 :: l1 :: l2 :: l3 :: .unset :: L) (.int x :: S) k n H Q ↔ W (pj lw) 35 12 (l0 :: l1 :: l2 :: l3 :: .val (.int x) :: L) S k n H Q := W_ist (rfl : (pj lw).1 35 10 = some (.istore 4, 2, 0)) rfl rfl
theorem w35_12 {x : Int32} {l0 l1 l2 l3 : Slot} : W (pj lw) 35 12 (l0 :: l1 :: l2 :: l3 :: .val (.int x) :: L) S k n H Q ↔ W (pj lw) 35 14 (l0 :: l1 :: l2 :: l3 :: .val (.int x) :: L) (.int x :: S) k n H Q := W_s (rfl : (pj lw).1 35 12 = some (.iload 4, 2, 0)) rfl rfl rfl
theorem w35_14 {x : Nat} : W (pj lw) 35 14 (.val (.ref x) :: L) S k n H Q ↔ W (pj lw) 35 15 (.val (.ref x) :: L) (.ref x :: S) k n H Q := W_s (rfl : (pj lw).1 35 14 = some (.aload_n 0, 1, 0)) rfl rfl rfl
theorem w35_15 {a : Nat} : W (pj lw) 35 15 L (.ref a :: S) k n H Q ↔ (isO H a = true ∧ W (pj lw) 35 18 L (fld H a 4 :: S) k n H Q) := W_getf (rfl : (pj lw).1 35 15 = some (.getfield 63, 3, 4))
theorem w35_18 {x y : Int32} : W (pj lw) 35 18 L (.int y :: .int x :: S) k n H Q ↔ (if x < y then W (pj lw) 35 21 L S k n H Q else W (pj lw) 35 105 L S k n H Q) := W_icmp_ge (rfl : (pj lw).1 35 18 = some (.if_icmp .ge 87, 3, 0)) rfl
theorem w35_21 {x : Nat} : W (pj lw) 35 21 (.val (.ref x) :: L) S k n H Q ↔ W (pj lw) 35 22 (.val (.ref x) :: L) (.ref x :: S) k n H Q := W_s (rfl : (pj lw).1 35 21 = some (.aload_n 0, 1, 0)) rfl rfl rfl
theorem w35_22 {a : Nat} : W (pj lw) 35 22 L (.ref a :: S) k n H Q ↔ (isO H a = true ∧ W (pj lw) 35 25 L (fld H a 11 :: S) k n H Q) := W_getf (rfl : (pj lw).1 35 22 = some (.getfield 25, 3, 11))
theorem w35_25 {x : Int32} {l0 l1 l2 l3 : Slot} : W (pj lw) 35 25 (l0 :: l1 :: l2 :: l3 :: .val (.int x) :: L) S k n H Q ↔ W (pj lw) 35 27 (l0 :: l1 :: l2 :: l3 :: .val (.int x) :: L) (.int x :: S) k n H Q := W_s (rfl : (pj lw).1 35 25 = some (.iload 4, 2, 0)) rfl rfl rfl
theorem w35_27 {i : Int32} {a : Nat} : W (pj lw) 35 27 L (.int i :: .ref a :: S) k n H Q ↔ (inA H a .int i = true ∧ W (pj lw) 35 28 L (elt H a i :: S) k n H Q) := W_iaload (rfl : (pj lw).1 35 27 = some (.iaload, 1, 0))
theorem w35_28 : W (pj lw) 35 28 L S k n H Q ↔ W (pj lw) 35 29 L (.int 2 :: S) k n H Q := W_s (rfl : (pj lw).1 35 28 = some (.iconst 2, 1, 0)) rfl rfl rfl
theorem w35_29 {x y : Int32} : W (pj lw) 35 29 L (.int y :: .int x :: S) k n H Q ↔ (if x = y then W (pj lw) 35 32 L S k n H Q else W (pj lw) 35 99 L S k n H Q) := W_icmp_ne (rfl : (pj lw).1 35 29 = some (.if_icmp .ne 70, 3, 0)) rfl
theorem w35_32 {x : Nat} : W (pj lw) 35 32 (.val (.ref x) :: L) S k n H Q ↔ W (pj lw) 35 33 (.val (.ref x) :: L) (.ref x :: S) k n H Q := W_s (rfl : (pj lw).1 35 32 = some (.aload_n 0, 1, 0)) rfl rfl rfl
theorem w35_33 {a : Nat} : W (pj lw) 35 33 L (.ref a :: S) k n H Q ↔ (isO H a = true ∧ W (pj lw) 35 36 L (fld H a 17 :: S) k n H Q) := W_getf (rfl : (pj lw).1 35 33 = some (.getfield 43, 3, 17))
theorem w35_36 {x : Int32} {l0 l1 l2 l3 : Slot} : W (pj lw) 35 36 (l0 :: l1 :: l2 :: l3 :: .val (.int x) :: L) S k n H Q ↔ W (pj lw) 35 38 (l0 :: l1 :: l2 :: l3 :: .val (.int x) :: L) (.int x :: S) k n H Q := W_s (rfl : (pj lw).1 35 36 = some (.iload 4, 2, 0)) rfl rfl rfl
theorem w35_38 {i : Int32} {a : Nat} : W (pj lw) 35 38 L (.int i :: .ref a :: S) k n H Q ↔ (inA H a .int i = true ∧ W (pj lw) 35 39 L (elt H a i :: S) k n H Q) := W_iaload (rfl : (pj lw).1 35 38 = some (.iaload, 1, 0))
theorem w35_39 {x : Int32} {l0 : Slot} : W (pj lw) 35 39 (l0 :: .val (.int x) :: L) S k n H Q ↔ W (pj lw) 35 40 (l0 :: .val (.int x) :: L) (.int x :: S) k n H Q := W_s (rfl : (pj lw).1 35 39 = some (.iload_n 1, 1, 0)) rfl rfl rfl
theorem w35_40 {x y : Int32} : W (pj lw) 35 40 L (.int y :: .int x :: S) k n H Q ↔ (if x = y then W (pj lw) 35 43 L S k n H Q else W (pj lw) 35 99 L S k n H Q) := W_icmp_ne (rfl : (pj lw).1 35 40 = some (.if_icmp .ne 59, 3, 0)) rfl
theorem w35_43 {x : Nat} : W (pj lw) 35 43 (.val (.ref x) :: L) S k n H Q ↔ W (pj lw) 35 44 (.val (.ref x) :: L) (.ref x :: S) k n H Q := W_s (rfl : (pj lw).1 35 43 = some (.aload_n 0, 1, 0)) rfl rfl rfl
theorem w35_44 {a : Nat} : W (pj lw) 35 44 L (.ref a :: S) k n H Q ↔ (isO H a = true ∧ W (pj lw) 35 47 L (fld H a 13 :: S) k n H Q) := W_getf (rfl : (pj lw).1 35 44 = some (.getfield 31, 3, 13))
theorem w35_47 {x : Int32} {l0 l1 l2 l3 : Slot} : W (pj lw) 35 47 (l0 :: l1 :: l2 :: l3 :: .val (.int x) :: L) S k n H Q ↔ W (pj lw) 35 49 (l0 :: l1 :: l2 :: l3 :: .val (.int x) :: L) (.int x :: S) k n H Q := W_s (rfl : (pj lw).1 35 47 = some (.iload 4, 2, 0)) rfl rfl rfl
theorem w35_49 {i : Int32} {a : Nat} : W (pj lw) 35 49 L (.int i :: .ref a :: S) k n H Q ↔ (inA H a .int i = true ∧ W (pj lw) 35 50 L (elt H a i :: S) k n H Q) := W_iaload (rfl : (pj lw).1 35 49 = some (.iaload, 1, 0))
theorem w35_50 {x : Int32} {l0 l1 : Slot} : W (pj lw) 35 50 (l0 :: l1 :: .val (.int x) :: L) S k n H Q ↔ W (pj lw) 35 51 (l0 :: l1 :: .val (.int x) :: L) (.int x :: S) k n H Q := W_s (rfl : (pj lw).1 35 50 = some (.iload_n 2, 1, 0)) rfl rfl rfl
theorem w35_51 {x y : Int32} : W (pj lw) 35 51 L (.int y :: .int x :: S) k n H Q ↔ (if x = y then W (pj lw) 35 54 L S k n H Q else W (pj lw) 35 99 L S k n H Q) := W_icmp_ne (rfl : (pj lw).1 35 51 = some (.if_icmp .ne 48, 3, 0)) rfl
theorem w35_54 {x : Nat} : W (pj lw) 35 54 (.val (.ref x) :: L) S k n H Q ↔ W (pj lw) 35 55 (.val (.ref x) :: L) (.ref x :: S) k n H Q := W_s (rfl : (pj lw).1 35 54 = some (.aload_n 0, 1, 0)) rfl rfl rfl
theorem w35_55 {a : Nat} : W (pj lw) 35 55 L (.ref a :: S) k n H Q ↔ (isO H a = true ∧ W (pj lw) 35 58 L (fld H a 11 :: S) k n H Q) := W_getf (rfl : (pj lw).1 35 55 = some (.getfield 25, 3, 11))
theorem w35_58 {x : Int32} {l0 l1 l2 l3 : Slot} : W (pj lw) 35 58 (l0 :: l1 :: l2 :: l3 :: .val (.int x) :: L) S k n H Q ↔ W (pj lw) 35 60 (l0 :: l1 :: l2 :: l3 :: .val (.int x) :: L) (.int x :: S) k n H Q := W_s (rfl : (pj lw).1 35 58 = some (.iload 4, 2, 0)) rfl rfl rfl
theorem w35_60 : W (pj lw) 35 60 L S k n H Q ↔ W (pj lw) 35 61 L (.int 3 :: S) k n H Q := W_s (rfl : (pj lw).1 35 60 = some (.iconst 3, 1, 0)) rfl rfl rfl
theorem w35_61 {x i : Int32} {a : Nat} : W (pj lw) 35 61 L (.int x :: .int i :: .ref a :: S) k n H Q ↔ (inAw H a .int i = true ∧ W (pj lw) 35 62 L S k n (wr H a i.toNatClampNeg (.int x)) Q) := W_iastore (rfl : (pj lw).1 35 61 = some (.iastore, 1, 0))
theorem w35_62 {x : Nat} : W (pj lw) 35 62 (.val (.ref x) :: L) S k n H Q ↔ W (pj lw) 35 63 (.val (.ref x) :: L) (.ref x :: S) k n H Q := W_s (rfl : (pj lw).1 35 62 = some (.aload_n 0, 1, 0)) rfl rfl rfl
theorem w35_63 {a : Nat} : W (pj lw) 35 63 L (.ref a :: S) k n H Q ↔ (isO H a = true ∧ W (pj lw) 35 66 L (fld H a 16 :: S) k n H Q) := W_getf (rfl : (pj lw).1 35 63 = some (.getfield 40, 3, 16))
theorem w35_66 {x : Int32} {l0 l1 l2 l3 : Slot} : W (pj lw) 35 66 (l0 :: l1 :: l2 :: l3 :: .val (.int x) :: L) S k n H Q ↔ W (pj lw) 35 68 (l0 :: l1 :: l2 :: l3 :: .val (.int x) :: L) (.int x :: S) k n H Q := W_s (rfl : (pj lw).1 35 66 = some (.iload 4, 2, 0)) rfl rfl rfl
theorem w35_68 {x : Nat} : W (pj lw) 35 68 (.val (.ref x) :: L) S k n H Q ↔ W (pj lw) 35 69 (.val (.ref x) :: L) (.ref x :: S) k n H Q := W_s (rfl : (pj lw).1 35 68 = some (.aload_n 0, 1, 0)) rfl rfl rfl
theorem w35_69 {a : Nat} : W (pj lw) 35 69 L (.ref a :: S) k n H Q ↔ (isO H a = true ∧ W (pj lw) 35 72 L (fld H a 3 :: S) k n H Q) := W_getf (rfl : (pj lw).1 35 69 = some (.getfield 66, 3, 3))
theorem w35_72 {x i : Int32} {a : Nat} : W (pj lw) 35 72 L (.int x :: .int i :: .ref a :: S) k n H Q ↔ (inAw H a .int i = true ∧ W (pj lw) 35 73 L S k n (wr H a i.toNatClampNeg (.int x)) Q) := W_iastore (rfl : (pj lw).1 35 72 = some (.iastore, 1, 0))
theorem w35_73 {x : Nat} : W (pj lw) 35 73 (.val (.ref x) :: L) S k n H Q ↔ W (pj lw) 35 74 (.val (.ref x) :: L) (.ref x :: S) k n H Q := W_s (rfl : (pj lw).1 35 73 = some (.aload_n 0, 1, 0)) rfl rfl rfl
theorem w35_74 {a : Nat} : W (pj lw) 35 74 L (.ref a :: S) k n H Q ↔ (isO H a = true ∧ W (pj lw) 35 77 L (fld H a 9 :: S) k n H Q) := W_getf (rfl : (pj lw).1 35 74 = some (.getfield 19, 3, 9))
theorem w35_77 {x : Int32} {l0 : Slot} : W (pj lw) 35 77 (l0 :: .val (.int x) :: L) S k n H Q ↔ W (pj lw) 35 78 (l0 :: .val (.int x) :: L) (.int x :: S) k n H Q := W_s (rfl : (pj lw).1 35 77 = some (.iload_n 1, 1, 0)) rfl rfl rfl
theorem w35_78 {x : Nat} : W (pj lw) 35 78 (.val (.ref x) :: L) S k n H Q ↔ W (pj lw) 35 79 (.val (.ref x) :: L) (.ref x :: S) k n H Q := W_s (rfl : (pj lw).1 35 78 = some (.aload_n 0, 1, 0)) rfl rfl rfl
theorem w35_79 {a : Nat} : W (pj lw) 35 79 L (.ref a :: S) k n H Q ↔ (isO H a = true ∧ W (pj lw) 35 82 L (fld H a 9 :: S) k n H Q) := W_getf (rfl : (pj lw).1 35 79 = some (.getfield 19, 3, 9))
theorem w35_82 {x : Int32} {l0 : Slot} : W (pj lw) 35 82 (l0 :: .val (.int x) :: L) S k n H Q ↔ W (pj lw) 35 83 (l0 :: .val (.int x) :: L) (.int x :: S) k n H Q := W_s (rfl : (pj lw).1 35 82 = some (.iload_n 1, 1, 0)) rfl rfl rfl
theorem w35_83 {i : Int32} {a : Nat} : W (pj lw) 35 83 L (.int i :: .ref a :: S) k n H Q ↔ (inA H a .int i = true ∧ W (pj lw) 35 84 L (elt H a i :: S) k n H Q) := W_iaload (rfl : (pj lw).1 35 83 = some (.iaload, 1, 0))
theorem w35_84 : W (pj lw) 35 84 L S k n H Q ↔ W (pj lw) 35 85 L (.int 1 :: S) k n H Q := W_s (rfl : (pj lw).1 35 84 = some (.iconst 1, 1, 0)) rfl rfl rfl
theorem w35_85 {x y : Int32} : W (pj lw) 35 85 L (.int y :: .int x :: S) k n H Q ↔ W (pj lw) 35 86 L (.int (x - y) :: S) k n H Q := W_s (rfl : (pj lw).1 35 85 = some (.isub, 1, 0)) rfl rfl rfl
theorem w35_86 {x i : Int32} {a : Nat} : W (pj lw) 35 86 L (.int x :: .int i :: .ref a :: S) k n H Q ↔ (inAw H a .int i = true ∧ W (pj lw) 35 87 L S k n (wr H a i.toNatClampNeg (.int x)) Q) := W_iastore (rfl : (pj lw).1 35 86 = some (.iastore, 1, 0))
theorem w35_87 {x : Nat} : W (pj lw) 35 87 (.val (.ref x) :: L) S k n H Q ↔ W (pj lw) 35 88 (.val (.ref x) :: L) (.ref x :: S) k n H Q := W_s (rfl : (pj lw).1 35 87 = some (.aload_n 0, 1, 0)) rfl rfl rfl
theorem w35_88 {x : Nat} : W (pj lw) 35 88 L (.ref x :: S) k n H Q ↔ W (pj lw) 35 89 L (.ref x :: .ref x :: S) k n H Q := W_s (rfl : (pj lw).1 35 88 = some (.dup, 1, 0)) rfl rfl rfl
theorem w35_89 {a : Nat} : W (pj lw) 35 89 L (.ref a :: S) k n H Q ↔ (isO H a = true ∧ W (pj lw) 35 92 L (fld H a 5 :: S) k n H Q) := W_getf (rfl : (pj lw).1 35 89 = some (.getfield 73, 3, 5))
theorem w35_92 : W (pj lw) 35 92 L S k n H Q ↔ W (pj lw) 35 93 L (.int 1 :: S) k n H Q := W_s (rfl : (pj lw).1 35 92 = some (.iconst 1, 1, 0)) rfl rfl rfl
theorem w35_93 {x y : Int32} : W (pj lw) 35 93 L (.int y :: .int x :: S) k n H Q ↔ W (pj lw) 35 94 L (.int (x + y) :: S) k n H Q := W_s (rfl : (pj lw).1 35 93 = some (.iadd, 1, 0)) rfl rfl rfl
theorem w35_94 {a : Nat} {v : Value} : W (pj lw) 35 94 L (v :: .ref a :: S) k n H Q ↔ ((isOw H a = true ∧ okv (.int) v = true) ∧ W (pj lw) 35 97 L S k n (wr H a 5 v) Q) := W_putf (rfl : (pj lw).1 35 94 = some (.putfield 73, 3, 5))
theorem w35_97 : W (pj lw) 35 97 L S k n H Q ↔ W (pj lw) 35 98 L (.int 1 :: S) k n H Q := W_s (rfl : (pj lw).1 35 97 = some (.iconst 1, 1, 0)) rfl rfl rfl
theorem w35_98i {y : Int32} {x : Int32} {l0 l1 l2 : Slot} : W (pj lw) 35 98 (l0 :: l1 :: l2 :: .val (.int y) :: L) (.int x :: S) k n H Q ↔ W (pj lw) 35 99 (l0 :: l1 :: l2 :: .val (.int x) :: L) S k n H Q := W_istn (rfl : (pj lw).1 35 98 = some (.istore_n 3, 1, 0)) rfl rfl
theorem w35_99 {x : Int32} {l0 l1 l2 l3 : Slot} : W (pj lw) 35 99 (l0 :: l1 :: l2 :: l3 :: .val (.int x) :: L) S k n H Q ↔ W (pj lw) 35 102 (l0 :: l1 :: l2 :: l3 :: .val (.int (x + 1)) :: L) S k n H Q := W_s (rfl : (pj lw).1 35 99 = some (.iinc 4 1, 3, 0)) rfl rfl rfl
theorem w35_102 : W (pj lw) 35 102 L S k n H Q ↔ W (pj lw) 35 12 L S k n H Q := W_goto (rfl : (pj lw).1 35 102 = some (.goto (-90), 3, 0)) rfl
theorem w35_105 {x : Int32} {l0 l1 l2 : Slot} : W (pj lw) 35 105 (l0 :: l1 :: l2 :: .val (.int x) :: L) S k n H Q ↔ W (pj lw) 35 106 (l0 :: l1 :: l2 :: .val (.int x) :: L) (.int x :: S) k n H Q := W_s (rfl : (pj lw).1 35 105 = some (.iload_n 3, 1, 0)) rfl rfl rfl
theorem w35_106 {x : Int32} : W (pj lw) 35 106 L (.int x :: S) k n H Q ↔ ((x = 0 ∨ x = 1) ∧ Q (some (.int x)) H) := W_rz (rfl : (pj lw).1 35 106 = some (.ireturn, 1, 0)) rfl
theorem c36 {x0 : Nat} {x1 : Int32} {x2 : Int32} : Cl (pj lw) 36 [.ref x0, .int x1, .int x2] H Q ↔ W (pj lw) 36 0 [.val (.ref x0), .val (.int x1), .val (.int x2), .unset, .unset, .unset] [] 0 0 H Q := cl_unf rfl
theorem w36_0 {x : Nat} : W (pj lw) 36 0 (.val (.ref x) :: L) S k n H Q ↔ W (pj lw) 36 1 (.val (.ref x) :: L) (.ref x :: S) k n H Q := W_s (rfl : (pj lw).1 36 0 = some (.aload_n 0, 1, 0)) rfl rfl rfl
theorem w36_1 {a : Nat} : W (pj lw) 36 1 L (.ref a :: S) k n H Q ↔ (isO H a = true ∧ W (pj lw) 36 4 L (fld H a 6 :: S) k n H Q) := W_getf (rfl : (pj lw).1 36 1 = some (.getfield 7, 3, 6))
theorem w36_4 {x : Int32} {l0 : Slot} : W (pj lw) 36 4 (l0 :: .val (.int x) :: L) S k n H Q ↔ W (pj lw) 36 5 (l0 :: .val (.int x) :: L) (.int x :: S) k n H Q := W_s (rfl : (pj lw).1 36 4 = some (.iload_n 1, 1, 0)) rfl rfl rfl
theorem w36_5 {i : Int32} {a : Nat} : W (pj lw) 36 5 L (.int i :: .ref a :: S) k n H Q ↔ (inA H a .int i = true ∧ W (pj lw) 36 6 L (elt H a i :: S) k n H Q) := W_iaload (rfl : (pj lw).1 36 5 = some (.iaload, 1, 0))
theorem w36_6 {x : Int32} {l0 l1 l2 : Slot} : W (pj lw) 36 6 (l0 :: l1 :: l2 :: .unset :: L) (.int x :: S) k n H Q ↔ W (pj lw) 36 7 (l0 :: l1 :: l2 :: .val (.int x) :: L) S k n H Q := W_istn (rfl : (pj lw).1 36 6 = some (.istore_n 3, 1, 0)) rfl rfl
theorem w36_7 : W (pj lw) 36 7 L S k n H Q ↔ W (pj lw) 36 8 L (.int 0 :: S) k n H Q := W_s (rfl : (pj lw).1 36 7 = some (.iconst 0, 1, 0)) rfl rfl rfl
theorem w36_8 {x : Int32} {l0 l1 l2 l3 : Slot} : W (pj lw) 36 8 (l0 :: l1 :: l2 :: l3 :: .unset :: L) (.int x :: S) k n H Q ↔ W (pj lw) 36 10 (l0 :: l1 :: l2 :: l3 :: .val (.int x) :: L) S k n H Q := W_ist (rfl : (pj lw).1 36 8 = some (.istore 4, 2, 0)) rfl rfl
theorem w36_10 : W (pj lw) 36 10 L S k n H Q ↔ W (pj lw) 36 11 L (.int 0 :: S) k n H Q := W_s (rfl : (pj lw).1 36 10 = some (.iconst 0, 1, 0)) rfl rfl rfl
theorem w36_11 {x : Int32} {l0 l1 l2 l3 l4 : Slot} : W (pj lw) 36 11 (l0 :: l1 :: l2 :: l3 :: l4 :: .unset :: L) (.int x :: S) k n H Q ↔ W (pj lw) 36 13 (l0 :: l1 :: l2 :: l3 :: l4 :: .val (.int x) :: L) S k n H Q := W_ist (rfl : (pj lw).1 36 11 = some (.istore 5, 2, 0)) rfl rfl
theorem w36_13 {x : Int32} {l0 l1 l2 l3 l4 : Slot} : W (pj lw) 36 13 (l0 :: l1 :: l2 :: l3 :: l4 :: .val (.int x) :: L) S k n H Q ↔ W (pj lw) 36 15 (l0 :: l1 :: l2 :: l3 :: l4 :: .val (.int x) :: L) (.int x :: S) k n H Q := W_s (rfl : (pj lw).1 36 13 = some (.iload 5, 2, 0)) rfl rfl rfl
theorem w36_15 {x : Nat} : W (pj lw) 36 15 (.val (.ref x) :: L) S k n H Q ↔ W (pj lw) 36 16 (.val (.ref x) :: L) (.ref x :: S) k n H Q := W_s (rfl : (pj lw).1 36 15 = some (.aload_n 0, 1, 0)) rfl rfl rfl
theorem w36_16 {a : Nat} : W (pj lw) 36 16 L (.ref a :: S) k n H Q ↔ (isO H a = true ∧ W (pj lw) 36 19 L (fld H a 4 :: S) k n H Q) := W_getf (rfl : (pj lw).1 36 16 = some (.getfield 63, 3, 4))
theorem w36_19 {x y : Int32} : W (pj lw) 36 19 L (.int y :: .int x :: S) k n H Q ↔ (if x < y then W (pj lw) 36 22 L S k n H Q else W (pj lw) 36 115 L S k n H Q) := W_icmp_ge (rfl : (pj lw).1 36 19 = some (.if_icmp .ge 96, 3, 0)) rfl
theorem w36_22 {x : Nat} : W (pj lw) 36 22 (.val (.ref x) :: L) S k n H Q ↔ W (pj lw) 36 23 (.val (.ref x) :: L) (.ref x :: S) k n H Q := W_s (rfl : (pj lw).1 36 22 = some (.aload_n 0, 1, 0)) rfl rfl rfl
theorem w36_23 {x : Int32} {l0 : Slot} : W (pj lw) 36 23 (l0 :: .val (.int x) :: L) S k n H Q ↔ W (pj lw) 36 24 (l0 :: .val (.int x) :: L) (.int x :: S) k n H Q := W_s (rfl : (pj lw).1 36 23 = some (.iload_n 1, 1, 0)) rfl rfl rfl
theorem w36_24 {a : Nat} {x0 : Int32} : W (pj lw) 36 24 L (.int x0 :: .ref a :: S) k n H Q ↔ ((isO H a = true ∧ cs S + (2 + 11) + 0 ≤ 13) ∧ Cl (pj lw) 24 [.ref a, .int x0] H (fun v H => W (pj lw) 36 27 L (v.toList ++ S) k n H Q)) := W_inst (as := [.int x0]) (rfl : (pj lw).1 36 24 = some (.invokevirtual 139, 3, 24)) rfl rfl rfl (Nat.le_of_ble_eq_true rfl) (Nat.le_of_ble_eq_true rfl) ⟨rfl, rfl⟩
theorem w36_27 {x : Int32} : W (pj lw) 36 27 L (.int x :: S) k n H Q ↔ (if x = 0 then W (pj lw) 36 30 L S k n H Q else W (pj lw) 36 33 L S k n H Q) := W_if_ne (rfl : (pj lw).1 36 27 = some (.ifCond .ne 6, 3, 0)) rfl
theorem w36_30 : W (pj lw) 36 30 L S k n H Q ↔ W (pj lw) 36 115 L S k n H Q := W_goto (rfl : (pj lw).1 36 30 = some (.goto 85, 3, 0)) rfl
theorem w36_33 {x : Nat} : W (pj lw) 36 33 (.val (.ref x) :: L) S k n H Q ↔ W (pj lw) 36 34 (.val (.ref x) :: L) (.ref x :: S) k n H Q := W_s (rfl : (pj lw).1 36 33 = some (.aload_n 0, 1, 0)) rfl rfl rfl
theorem w36_34 {a : Nat} : W (pj lw) 36 34 L (.ref a :: S) k n H Q ↔ (isO H a = true ∧ W (pj lw) 36 37 L (fld H a 11 :: S) k n H Q) := W_getf (rfl : (pj lw).1 36 34 = some (.getfield 25, 3, 11))
theorem w36_37 {x : Int32} {l0 l1 l2 l3 l4 : Slot} : W (pj lw) 36 37 (l0 :: l1 :: l2 :: l3 :: l4 :: .val (.int x) :: L) S k n H Q ↔ W (pj lw) 36 39 (l0 :: l1 :: l2 :: l3 :: l4 :: .val (.int x) :: L) (.int x :: S) k n H Q := W_s (rfl : (pj lw).1 36 37 = some (.iload 5, 2, 0)) rfl rfl rfl
theorem w36_39 {i : Int32} {a : Nat} : W (pj lw) 36 39 L (.int i :: .ref a :: S) k n H Q ↔ (inA H a .int i = true ∧ W (pj lw) 36 40 L (elt H a i :: S) k n H Q) := W_iaload (rfl : (pj lw).1 36 39 = some (.iaload, 1, 0))
theorem w36_40 : W (pj lw) 36 40 L S k n H Q ↔ W (pj lw) 36 41 L (.int 1 :: S) k n H Q := W_s (rfl : (pj lw).1 36 40 = some (.iconst 1, 1, 0)) rfl rfl rfl
theorem w36_41 {x y : Int32} : W (pj lw) 36 41 L (.int y :: .int x :: S) k n H Q ↔ (if x = y then W (pj lw) 36 44 L S k n H Q else W (pj lw) 36 109 L S k n H Q) := W_icmp_ne (rfl : (pj lw).1 36 41 = some (.if_icmp .ne 68, 3, 0)) rfl
theorem w36_44 {x : Nat} : W (pj lw) 36 44 (.val (.ref x) :: L) S k n H Q ↔ W (pj lw) 36 45 (.val (.ref x) :: L) (.ref x :: S) k n H Q := W_s (rfl : (pj lw).1 36 44 = some (.aload_n 0, 1, 0)) rfl rfl rfl
theorem w36_45 {a : Nat} : W (pj lw) 36 45 L (.ref a :: S) k n H Q ↔ (isO H a = true ∧ W (pj lw) 36 48 L (fld H a 12 :: S) k n H Q) := W_getf (rfl : (pj lw).1 36 45 = some (.getfield 28, 3, 12))
theorem w36_48 {x : Int32} {l0 l1 l2 l3 l4 : Slot} : W (pj lw) 36 48 (l0 :: l1 :: l2 :: l3 :: l4 :: .val (.int x) :: L) S k n H Q ↔ W (pj lw) 36 50 (l0 :: l1 :: l2 :: l3 :: l4 :: .val (.int x) :: L) (.int x :: S) k n H Q := W_s (rfl : (pj lw).1 36 48 = some (.iload 5, 2, 0)) rfl rfl rfl
theorem w36_50 {i : Int32} {a : Nat} : W (pj lw) 36 50 L (.int i :: .ref a :: S) k n H Q ↔ (inA H a .int i = true ∧ W (pj lw) 36 51 L (elt H a i :: S) k n H Q) := W_iaload (rfl : (pj lw).1 36 50 = some (.iaload, 1, 0))
theorem w36_51 {x : Int32} {l0 l1 l2 : Slot} : W (pj lw) 36 51 (l0 :: l1 :: l2 :: .val (.int x) :: L) S k n H Q ↔ W (pj lw) 36 52 (l0 :: l1 :: l2 :: .val (.int x) :: L) (.int x :: S) k n H Q := W_s (rfl : (pj lw).1 36 51 = some (.iload_n 3, 1, 0)) rfl rfl rfl
theorem w36_52 {x y : Int32} : W (pj lw) 36 52 L (.int y :: .int x :: S) k n H Q ↔ (if x = y then W (pj lw) 36 55 L S k n H Q else W (pj lw) 36 109 L S k n H Q) := W_icmp_ne (rfl : (pj lw).1 36 52 = some (.if_icmp .ne 57, 3, 0)) rfl
theorem w36_55 {x : Nat} : W (pj lw) 36 55 (.val (.ref x) :: L) S k n H Q ↔ W (pj lw) 36 56 (.val (.ref x) :: L) (.ref x :: S) k n H Q := W_s (rfl : (pj lw).1 36 55 = some (.aload_n 0, 1, 0)) rfl rfl rfl
theorem w36_56 {x : Int32} {l0 l1 l2 l3 l4 : Slot} : W (pj lw) 36 56 (l0 :: l1 :: l2 :: l3 :: l4 :: .val (.int x) :: L) S k n H Q ↔ W (pj lw) 36 58 (l0 :: l1 :: l2 :: l3 :: l4 :: .val (.int x) :: L) (.int x :: S) k n H Q := W_s (rfl : (pj lw).1 36 56 = some (.iload 5, 2, 0)) rfl rfl rfl
theorem w36_58 {a : Nat} {x0 : Int32} : W (pj lw) 36 58 L (.int x0 :: .ref a :: S) k n H Q ↔ ((isO H a = true ∧ cs S + (2 + 11) + 0 ≤ 13) ∧ Cl (pj lw) 17 [.ref a, .int x0] H (fun v H => W (pj lw) 36 61 L (v.toList ++ S) k n H Q)) := W_inst (as := [.int x0]) (rfl : (pj lw).1 36 58 = some (.invokevirtual 91, 3, 17)) rfl rfl rfl (Nat.le_of_ble_eq_true rfl) (Nat.le_of_ble_eq_true rfl) ⟨rfl, rfl⟩
theorem w36_61 {x : Int32} {l0 l1 : Slot} : W (pj lw) 36 61 (l0 :: l1 :: .val (.int x) :: L) S k n H Q ↔ W (pj lw) 36 62 (l0 :: l1 :: .val (.int x) :: L) (.int x :: S) k n H Q := W_s (rfl : (pj lw).1 36 61 = some (.iload_n 2, 1, 0)) rfl rfl rfl
theorem w36_62 {x y : Int32} : W (pj lw) 36 62 L (.int y :: .int x :: S) k n H Q ↔ (if x = y then W (pj lw) 36 65 L S k n H Q else W (pj lw) 36 109 L S k n H Q) := W_icmp_ne (rfl : (pj lw).1 36 62 = some (.if_icmp .ne 47, 3, 0)) rfl
theorem w36_65 {x : Nat} : W (pj lw) 36 65 (.val (.ref x) :: L) S k n H Q ↔ W (pj lw) 36 66 (.val (.ref x) :: L) (.ref x :: S) k n H Q := W_s (rfl : (pj lw).1 36 65 = some (.aload_n 0, 1, 0)) rfl rfl rfl
theorem w36_66 {a : Nat} : W (pj lw) 36 66 L (.ref a :: S) k n H Q ↔ (isO H a = true ∧ W (pj lw) 36 69 L (fld H a 11 :: S) k n H Q) := W_getf (rfl : (pj lw).1 36 66 = some (.getfield 25, 3, 11))
theorem w36_69 {x : Int32} {l0 l1 l2 l3 l4 : Slot} : W (pj lw) 36 69 (l0 :: l1 :: l2 :: l3 :: l4 :: .val (.int x) :: L) S k n H Q ↔ W (pj lw) 36 71 (l0 :: l1 :: l2 :: l3 :: l4 :: .val (.int x) :: L) (.int x :: S) k n H Q := W_s (rfl : (pj lw).1 36 69 = some (.iload 5, 2, 0)) rfl rfl rfl
theorem w36_71 : W (pj lw) 36 71 L S k n H Q ↔ W (pj lw) 36 72 L (.int 2 :: S) k n H Q := W_s (rfl : (pj lw).1 36 71 = some (.iconst 2, 1, 0)) rfl rfl rfl
theorem w36_72 {x i : Int32} {a : Nat} : W (pj lw) 36 72 L (.int x :: .int i :: .ref a :: S) k n H Q ↔ (inAw H a .int i = true ∧ W (pj lw) 36 73 L S k n (wr H a i.toNatClampNeg (.int x)) Q) := W_iastore (rfl : (pj lw).1 36 72 = some (.iastore, 1, 0))
theorem w36_73 {x : Nat} : W (pj lw) 36 73 (.val (.ref x) :: L) S k n H Q ↔ W (pj lw) 36 74 (.val (.ref x) :: L) (.ref x :: S) k n H Q := W_s (rfl : (pj lw).1 36 73 = some (.aload_n 0, 1, 0)) rfl rfl rfl
theorem w36_74 {a : Nat} : W (pj lw) 36 74 L (.ref a :: S) k n H Q ↔ (isO H a = true ∧ W (pj lw) 36 77 L (fld H a 15 :: S) k n H Q) := W_getf (rfl : (pj lw).1 36 74 = some (.getfield 37, 3, 15))
theorem w36_77 {x : Int32} {l0 l1 l2 l3 l4 : Slot} : W (pj lw) 36 77 (l0 :: l1 :: l2 :: l3 :: l4 :: .val (.int x) :: L) S k n H Q ↔ W (pj lw) 36 79 (l0 :: l1 :: l2 :: l3 :: l4 :: .val (.int x) :: L) (.int x :: S) k n H Q := W_s (rfl : (pj lw).1 36 77 = some (.iload 5, 2, 0)) rfl rfl rfl
theorem w36_79 {x : Nat} : W (pj lw) 36 79 (.val (.ref x) :: L) S k n H Q ↔ W (pj lw) 36 80 (.val (.ref x) :: L) (.ref x :: S) k n H Q := W_s (rfl : (pj lw).1 36 79 = some (.aload_n 0, 1, 0)) rfl rfl rfl
theorem w36_80 {a : Nat} : W (pj lw) 36 80 L (.ref a :: S) k n H Q ↔ (isO H a = true ∧ W (pj lw) 36 83 L (fld H a 3 :: S) k n H Q) := W_getf (rfl : (pj lw).1 36 80 = some (.getfield 66, 3, 3))
theorem w36_83 {x i : Int32} {a : Nat} : W (pj lw) 36 83 L (.int x :: .int i :: .ref a :: S) k n H Q ↔ (inAw H a .int i = true ∧ W (pj lw) 36 84 L S k n (wr H a i.toNatClampNeg (.int x)) Q) := W_iastore (rfl : (pj lw).1 36 83 = some (.iastore, 1, 0))
theorem w36_84 {x : Nat} : W (pj lw) 36 84 (.val (.ref x) :: L) S k n H Q ↔ W (pj lw) 36 85 (.val (.ref x) :: L) (.ref x :: S) k n H Q := W_s (rfl : (pj lw).1 36 84 = some (.aload_n 0, 1, 0)) rfl rfl rfl
theorem w36_85 {a : Nat} : W (pj lw) 36 85 L (.ref a :: S) k n H Q ↔ (isO H a = true ∧ W (pj lw) 36 88 L (fld H a 17 :: S) k n H Q) := W_getf (rfl : (pj lw).1 36 85 = some (.getfield 43, 3, 17))
theorem w36_88 {x : Int32} {l0 l1 l2 l3 l4 : Slot} : W (pj lw) 36 88 (l0 :: l1 :: l2 :: l3 :: l4 :: .val (.int x) :: L) S k n H Q ↔ W (pj lw) 36 90 (l0 :: l1 :: l2 :: l3 :: l4 :: .val (.int x) :: L) (.int x :: S) k n H Q := W_s (rfl : (pj lw).1 36 88 = some (.iload 5, 2, 0)) rfl rfl rfl
theorem w36_90 {x : Int32} {l0 : Slot} : W (pj lw) 36 90 (l0 :: .val (.int x) :: L) S k n H Q ↔ W (pj lw) 36 91 (l0 :: .val (.int x) :: L) (.int x :: S) k n H Q := W_s (rfl : (pj lw).1 36 90 = some (.iload_n 1, 1, 0)) rfl rfl rfl
theorem w36_91 {x i : Int32} {a : Nat} : W (pj lw) 36 91 L (.int x :: .int i :: .ref a :: S) k n H Q ↔ (inAw H a .int i = true ∧ W (pj lw) 36 92 L S k n (wr H a i.toNatClampNeg (.int x)) Q) := W_iastore (rfl : (pj lw).1 36 91 = some (.iastore, 1, 0))
theorem w36_92 {x : Nat} : W (pj lw) 36 92 (.val (.ref x) :: L) S k n H Q ↔ W (pj lw) 36 93 (.val (.ref x) :: L) (.ref x :: S) k n H Q := W_s (rfl : (pj lw).1 36 92 = some (.aload_n 0, 1, 0)) rfl rfl rfl
theorem w36_93 {a : Nat} : W (pj lw) 36 93 L (.ref a :: S) k n H Q ↔ (isO H a = true ∧ W (pj lw) 36 96 L (fld H a 9 :: S) k n H Q) := W_getf (rfl : (pj lw).1 36 93 = some (.getfield 19, 3, 9))
theorem w36_96 {x : Int32} {l0 : Slot} : W (pj lw) 36 96 (l0 :: .val (.int x) :: L) S k n H Q ↔ W (pj lw) 36 97 (l0 :: .val (.int x) :: L) (.int x :: S) k n H Q := W_s (rfl : (pj lw).1 36 96 = some (.iload_n 1, 1, 0)) rfl rfl rfl
theorem w36_97 {x : Nat} : W (pj lw) 36 97 (.val (.ref x) :: L) S k n H Q ↔ W (pj lw) 36 98 (.val (.ref x) :: L) (.ref x :: S) k n H Q := W_s (rfl : (pj lw).1 36 97 = some (.aload_n 0, 1, 0)) rfl rfl rfl
theorem w36_98 {a : Nat} : W (pj lw) 36 98 L (.ref a :: S) k n H Q ↔ (isO H a = true ∧ W (pj lw) 36 101 L (fld H a 9 :: S) k n H Q) := W_getf (rfl : (pj lw).1 36 98 = some (.getfield 19, 3, 9))
theorem w36_101 {x : Int32} {l0 : Slot} : W (pj lw) 36 101 (l0 :: .val (.int x) :: L) S k n H Q ↔ W (pj lw) 36 102 (l0 :: .val (.int x) :: L) (.int x :: S) k n H Q := W_s (rfl : (pj lw).1 36 101 = some (.iload_n 1, 1, 0)) rfl rfl rfl
theorem w36_102 {i : Int32} {a : Nat} : W (pj lw) 36 102 L (.int i :: .ref a :: S) k n H Q ↔ (inA H a .int i = true ∧ W (pj lw) 36 103 L (elt H a i :: S) k n H Q) := W_iaload (rfl : (pj lw).1 36 102 = some (.iaload, 1, 0))
theorem w36_103 : W (pj lw) 36 103 L S k n H Q ↔ W (pj lw) 36 104 L (.int 1 :: S) k n H Q := W_s (rfl : (pj lw).1 36 103 = some (.iconst 1, 1, 0)) rfl rfl rfl
theorem w36_104 {x y : Int32} : W (pj lw) 36 104 L (.int y :: .int x :: S) k n H Q ↔ W (pj lw) 36 105 L (.int (x + y) :: S) k n H Q := W_s (rfl : (pj lw).1 36 104 = some (.iadd, 1, 0)) rfl rfl rfl
theorem w36_105 {x i : Int32} {a : Nat} : W (pj lw) 36 105 L (.int x :: .int i :: .ref a :: S) k n H Q ↔ (inAw H a .int i = true ∧ W (pj lw) 36 106 L S k n (wr H a i.toNatClampNeg (.int x)) Q) := W_iastore (rfl : (pj lw).1 36 105 = some (.iastore, 1, 0))
theorem w36_106 : W (pj lw) 36 106 L S k n H Q ↔ W (pj lw) 36 107 L (.int 1 :: S) k n H Q := W_s (rfl : (pj lw).1 36 106 = some (.iconst 1, 1, 0)) rfl rfl rfl
theorem w36_107i {y : Int32} {x : Int32} {l0 l1 l2 l3 : Slot} : W (pj lw) 36 107 (l0 :: l1 :: l2 :: l3 :: .val (.int y) :: L) (.int x :: S) k n H Q ↔ W (pj lw) 36 109 (l0 :: l1 :: l2 :: l3 :: .val (.int x) :: L) S k n H Q := W_ist (rfl : (pj lw).1 36 107 = some (.istore 4, 2, 0)) rfl rfl
theorem w36_109 {x : Int32} {l0 l1 l2 l3 l4 : Slot} : W (pj lw) 36 109 (l0 :: l1 :: l2 :: l3 :: l4 :: .val (.int x) :: L) S k n H Q ↔ W (pj lw) 36 112 (l0 :: l1 :: l2 :: l3 :: l4 :: .val (.int (x + 1)) :: L) S k n H Q := W_s (rfl : (pj lw).1 36 109 = some (.iinc 5 1, 3, 0)) rfl rfl rfl
theorem w36_112 : W (pj lw) 36 112 L S k n H Q ↔ W (pj lw) 36 13 L S k n H Q := W_goto (rfl : (pj lw).1 36 112 = some (.goto (-99), 3, 0)) rfl
theorem w36_115 {x : Int32} {l0 l1 l2 l3 : Slot} : W (pj lw) 36 115 (l0 :: l1 :: l2 :: l3 :: .val (.int x) :: L) S k n H Q ↔ W (pj lw) 36 117 (l0 :: l1 :: l2 :: l3 :: .val (.int x) :: L) (.int x :: S) k n H Q := W_s (rfl : (pj lw).1 36 115 = some (.iload 4, 2, 0)) rfl rfl rfl
theorem w36_117 {x : Int32} : W (pj lw) 36 117 L (.int x :: S) k n H Q ↔ ((x = 0 ∨ x = 1) ∧ Q (some (.int x)) H) := W_rz (rfl : (pj lw).1 36 117 = some (.ireturn, 1, 0)) rfl
theorem c37 {x0 : Nat} {x1 : Int32} : Cl (pj lw) 37 [.ref x0, .int x1] H Q ↔ W (pj lw) 37 0 [.val (.ref x0), .val (.int x1), .unset] [] 0 0 H Q := cl_unf rfl
theorem w37_0 {x : Nat} : W (pj lw) 37 0 (.val (.ref x) :: L) S k n H Q ↔ W (pj lw) 37 1 (.val (.ref x) :: L) (.ref x :: S) k n H Q := W_s (rfl : (pj lw).1 37 0 = some (.aload_n 0, 1, 0)) rfl rfl rfl
theorem w37_1 {x : Int32} {l0 : Slot} : W (pj lw) 37 1 (l0 :: .val (.int x) :: L) S k n H Q ↔ W (pj lw) 37 2 (l0 :: .val (.int x) :: L) (.int x :: S) k n H Q := W_s (rfl : (pj lw).1 37 1 = some (.iload_n 1, 1, 0)) rfl rfl rfl
theorem w37_2 {a : Nat} {x0 : Int32} : W (pj lw) 37 2 L (.int x0 :: .ref a :: S) k n H Q ↔ ((isO H a = true ∧ cs S + (4 + 11) + 74 ≤ 89) ∧ Cl (pj lw) 25 [.ref a, .int x0] H (fun v H => W (pj lw) 37 5 L (v.toList ++ S) k n H Q)) := W_inst (as := [.int x0]) (rfl : (pj lw).1 37 2 = some (.invokevirtual 136, 3, 25)) rfl rfl rfl (Nat.le_of_ble_eq_true rfl) (Nat.le_of_ble_eq_true rfl) ⟨rfl, rfl⟩
theorem w37_5 {x : Int32} {l0 l1 : Slot} : W (pj lw) 37 5 (l0 :: l1 :: .unset :: L) (.int x :: S) k n H Q ↔ W (pj lw) 37 6 (l0 :: l1 :: .val (.int x) :: L) S k n H Q := W_istn (rfl : (pj lw).1 37 5 = some (.istore_n 2, 1, 0)) rfl rfl
theorem w37_6 {x : Nat} : W (pj lw) 37 6 (.val (.ref x) :: L) S k n H Q ↔ W (pj lw) 37 7 (.val (.ref x) :: L) (.ref x :: S) k n H Q := W_s (rfl : (pj lw).1 37 6 = some (.aload_n 0, 1, 0)) rfl rfl rfl
theorem w37_7 {a : Nat} : W (pj lw) 37 7 L (.ref a :: S) k n H Q ↔ (isO H a = true ∧ W (pj lw) 37 10 L (fld H a 8 :: S) k n H Q) := W_getf (rfl : (pj lw).1 37 7 = some (.getfield 16, 3, 8))
theorem w37_10 {x : Int32} {l0 : Slot} : W (pj lw) 37 10 (l0 :: .val (.int x) :: L) S k n H Q ↔ W (pj lw) 37 11 (l0 :: .val (.int x) :: L) (.int x :: S) k n H Q := W_s (rfl : (pj lw).1 37 10 = some (.iload_n 1, 1, 0)) rfl rfl rfl
theorem w37_11 {x : Int32} {l0 l1 : Slot} : W (pj lw) 37 11 (l0 :: l1 :: .val (.int x) :: L) S k n H Q ↔ W (pj lw) 37 12 (l0 :: l1 :: .val (.int x) :: L) (.int x :: S) k n H Q := W_s (rfl : (pj lw).1 37 11 = some (.iload_n 2, 1, 0)) rfl rfl rfl
theorem w37_12 {x i : Int32} {a : Nat} : W (pj lw) 37 12 L (.int x :: .int i :: .ref a :: S) k n H Q ↔ (inAw H a .int i = true ∧ W (pj lw) 37 13 L S k n (wr H a i.toNatClampNeg (.int x)) Q) := W_iastore (rfl : (pj lw).1 37 12 = some (.iastore, 1, 0))
theorem w37_13 {x : Int32} {l0 l1 : Slot} : W (pj lw) 37 13 (l0 :: l1 :: .val (.int x) :: L) S k n H Q ↔ W (pj lw) 37 14 (l0 :: l1 :: .val (.int x) :: L) (.int x :: S) k n H Q := W_s (rfl : (pj lw).1 37 13 = some (.iload_n 2, 1, 0)) rfl rfl rfl
theorem w37_14 {x : Int32} : W (pj lw) 37 14 L (.int x :: S) k n H Q ↔ (if x = 0 then W (pj lw) 37 56 L S k n H Q else W (pj lw) 37 17 L S k n H Q) := W_if_eq (rfl : (pj lw).1 37 14 = some (.ifCond .eq 42, 3, 0)) rfl
theorem w37_17 {x : Nat} : W (pj lw) 37 17 (.val (.ref x) :: L) S k n H Q ↔ W (pj lw) 37 18 (.val (.ref x) :: L) (.ref x :: S) k n H Q := W_s (rfl : (pj lw).1 37 17 = some (.aload_n 0, 1, 0)) rfl rfl rfl
theorem w37_18 {x : Int32} {l0 : Slot} : W (pj lw) 37 18 (l0 :: .val (.int x) :: L) S k n H Q ↔ W (pj lw) 37 19 (l0 :: .val (.int x) :: L) (.int x :: S) k n H Q := W_s (rfl : (pj lw).1 37 18 = some (.iload_n 1, 1, 0)) rfl rfl rfl
theorem w37_19 {a : Nat} {x0 : Int32} : W (pj lw) 37 19 L (.int x0 :: .ref a :: S) k n H Q ↔ ((isO H a = true ∧ cs S + (2 + 11) + 0 ≤ 89) ∧ Cl (pj lw) 24 [.ref a, .int x0] H (fun v H => W (pj lw) 37 22 L (v.toList ++ S) k n H Q)) := W_inst (as := [.int x0]) (rfl : (pj lw).1 37 19 = some (.invokevirtual 139, 3, 24)) rfl rfl rfl (Nat.le_of_ble_eq_true rfl) (Nat.le_of_ble_eq_true rfl) ⟨rfl, rfl⟩
theorem w37_22 {x : Int32} : W (pj lw) 37 22 L (.int x :: S) k n H Q ↔ (if x = 0 then W (pj lw) 37 56 L S k n H Q else W (pj lw) 37 25 L S k n H Q) := W_if_eq (rfl : (pj lw).1 37 22 = some (.ifCond .eq 34, 3, 0)) rfl
theorem w37_25 {x : Nat} : W (pj lw) 37 25 (.val (.ref x) :: L) S k n H Q ↔ W (pj lw) 37 26 (.val (.ref x) :: L) (.ref x :: S) k n H Q := W_s (rfl : (pj lw).1 37 25 = some (.aload_n 0, 1, 0)) rfl rfl rfl
theorem w37_26 {x : Nat} : W (pj lw) 37 26 (.val (.ref x) :: L) S k n H Q ↔ W (pj lw) 37 27 (.val (.ref x) :: L) (.ref x :: S) k n H Q := W_s (rfl : (pj lw).1 37 26 = some (.aload_n 0, 1, 0)) rfl rfl rfl
theorem w37_27 {a : Nat} : W (pj lw) 37 27 L (.ref a :: S) k n H Q ↔ (isO H a = true ∧ W (pj lw) 37 30 L (fld H a 6 :: S) k n H Q) := W_getf (rfl : (pj lw).1 37 27 = some (.getfield 7, 3, 6))
theorem w37_30 {x : Int32} {l0 : Slot} : W (pj lw) 37 30 (l0 :: .val (.int x) :: L) S k n H Q ↔ W (pj lw) 37 31 (l0 :: .val (.int x) :: L) (.int x :: S) k n H Q := W_s (rfl : (pj lw).1 37 30 = some (.iload_n 1, 1, 0)) rfl rfl rfl
theorem w37_31 {i : Int32} {a : Nat} : W (pj lw) 37 31 L (.int i :: .ref a :: S) k n H Q ↔ (inA H a .int i = true ∧ W (pj lw) 37 32 L (elt H a i :: S) k n H Q) := W_iaload (rfl : (pj lw).1 37 31 = some (.iaload, 1, 0))
theorem w37_32 {x : Int32} {l0 l1 : Slot} : W (pj lw) 37 32 (l0 :: l1 :: .val (.int x) :: L) S k n H Q ↔ W (pj lw) 37 33 (l0 :: l1 :: .val (.int x) :: L) (.int x :: S) k n H Q := W_s (rfl : (pj lw).1 37 32 = some (.iload_n 2, 1, 0)) rfl rfl rfl
theorem w37_33 {a : Nat} {x0 : Int32} {x1 : Int32} : W (pj lw) 37 33 L (.int x1 :: .int x0 :: .ref a :: S) k n H Q ↔ ((isO H a = true ∧ cs S + (4 + 11) + 13 ≤ 89) ∧ Cl (pj lw) 19 [.ref a, .int x0, .int x1] H (fun v H => W (pj lw) 37 36 L (v.toList ++ S) k n H Q)) := W_inst (as := [.int x0, .int x1]) (rfl : (pj lw).1 37 33 = some (.invokevirtual 79, 3, 19)) rfl rfl rfl (Nat.le_of_ble_eq_true rfl) (Nat.le_of_ble_eq_true rfl) ⟨rfl, rfl⟩
theorem w37_36 {x : Int32} : W (pj lw) 37 36 L (.int x :: S) k n H Q ↔ (if x = 0 then W (pj lw) 37 56 L S k n H Q else W (pj lw) 37 39 L S k n H Q) := W_if_eq (rfl : (pj lw).1 37 36 = some (.ifCond .eq 20, 3, 0)) rfl
theorem w37_39 {x : Nat} : W (pj lw) 37 39 (.val (.ref x) :: L) S k n H Q ↔ W (pj lw) 37 40 (.val (.ref x) :: L) (.ref x :: S) k n H Q := W_s (rfl : (pj lw).1 37 39 = some (.aload_n 0, 1, 0)) rfl rfl rfl
theorem w37_40 {a : Nat} : W (pj lw) 37 40 L (.ref a :: S) k n H Q ↔ (isO H a = true ∧ W (pj lw) 37 43 L (fld H a 7 :: S) k n H Q) := W_getf (rfl : (pj lw).1 37 40 = some (.getfield 13, 3, 7))
theorem w37_43 {x : Int32} {l0 : Slot} : W (pj lw) 37 43 (l0 :: .val (.int x) :: L) S k n H Q ↔ W (pj lw) 37 44 (l0 :: .val (.int x) :: L) (.int x :: S) k n H Q := W_s (rfl : (pj lw).1 37 43 = some (.iload_n 1, 1, 0)) rfl rfl rfl
theorem w37_44 : W (pj lw) 37 44 L S k n H Q ↔ W (pj lw) 37 45 L (.int 1 :: S) k n H Q := W_s (rfl : (pj lw).1 37 44 = some (.iconst 1, 1, 0)) rfl rfl rfl
theorem w37_45 {x i : Int32} {a : Nat} : W (pj lw) 37 45 L (.int x :: .int i :: .ref a :: S) k n H Q ↔ (inAw H a .int i = true ∧ W (pj lw) 37 46 L S k n (wr H a i.toNatClampNeg (.int x)) Q) := W_iastore (rfl : (pj lw).1 37 45 = some (.iastore, 1, 0))
theorem w37_46 {x : Nat} : W (pj lw) 37 46 (.val (.ref x) :: L) S k n H Q ↔ W (pj lw) 37 47 (.val (.ref x) :: L) (.ref x :: S) k n H Q := W_s (rfl : (pj lw).1 37 46 = some (.aload_n 0, 1, 0)) rfl rfl rfl
theorem w37_47 {a : Nat} : W (pj lw) 37 47 L (.ref a :: S) k n H Q ↔ (isO H a = true ∧ W (pj lw) 37 50 L (fld H a 10 :: S) k n H Q) := W_getf (rfl : (pj lw).1 37 47 = some (.getfield 22, 3, 10))
theorem w37_50 {x : Int32} {l0 : Slot} : W (pj lw) 37 50 (l0 :: .val (.int x) :: L) S k n H Q ↔ W (pj lw) 37 51 (l0 :: .val (.int x) :: L) (.int x :: S) k n H Q := W_s (rfl : (pj lw).1 37 50 = some (.iload_n 1, 1, 0)) rfl rfl rfl
theorem w37_51 : W (pj lw) 37 51 L S k n H Q ↔ W (pj lw) 37 52 L (.int 3 :: S) k n H Q := W_s (rfl : (pj lw).1 37 51 = some (.iconst 3, 1, 0)) rfl rfl rfl
theorem w37_52 {x i : Int32} {a : Nat} : W (pj lw) 37 52 L (.int x :: .int i :: .ref a :: S) k n H Q ↔ (inAw H a .int i = true ∧ W (pj lw) 37 53 L S k n (wr H a i.toNatClampNeg (.int x)) Q) := W_iastore (rfl : (pj lw).1 37 52 = some (.iastore, 1, 0))
theorem w37_53 : W (pj lw) 37 53 L S k n H Q ↔ W (pj lw) 37 70 L S k n H Q := W_goto (rfl : (pj lw).1 37 53 = some (.goto 17, 3, 0)) rfl
theorem w37_56 {x : Nat} : W (pj lw) 37 56 (.val (.ref x) :: L) S k n H Q ↔ W (pj lw) 37 57 (.val (.ref x) :: L) (.ref x :: S) k n H Q := W_s (rfl : (pj lw).1 37 56 = some (.aload_n 0, 1, 0)) rfl rfl rfl
theorem w37_57 {a : Nat} : W (pj lw) 37 57 L (.ref a :: S) k n H Q ↔ (isO H a = true ∧ W (pj lw) 37 60 L (fld H a 7 :: S) k n H Q) := W_getf (rfl : (pj lw).1 37 57 = some (.getfield 13, 3, 7))
theorem w37_60 {x : Int32} {l0 : Slot} : W (pj lw) 37 60 (l0 :: .val (.int x) :: L) S k n H Q ↔ W (pj lw) 37 61 (l0 :: .val (.int x) :: L) (.int x :: S) k n H Q := W_s (rfl : (pj lw).1 37 60 = some (.iload_n 1, 1, 0)) rfl rfl rfl
theorem w37_61 : W (pj lw) 37 61 L S k n H Q ↔ W (pj lw) 37 62 L (.int 0 :: S) k n H Q := W_s (rfl : (pj lw).1 37 61 = some (.iconst 0, 1, 0)) rfl rfl rfl
theorem w37_62 {x i : Int32} {a : Nat} : W (pj lw) 37 62 L (.int x :: .int i :: .ref a :: S) k n H Q ↔ (inAw H a .int i = true ∧ W (pj lw) 37 63 L S k n (wr H a i.toNatClampNeg (.int x)) Q) := W_iastore (rfl : (pj lw).1 37 62 = some (.iastore, 1, 0))
theorem w37_63 {x : Nat} : W (pj lw) 37 63 (.val (.ref x) :: L) S k n H Q ↔ W (pj lw) 37 64 (.val (.ref x) :: L) (.ref x :: S) k n H Q := W_s (rfl : (pj lw).1 37 63 = some (.aload_n 0, 1, 0)) rfl rfl rfl
theorem w37_64 {a : Nat} : W (pj lw) 37 64 L (.ref a :: S) k n H Q ↔ (isO H a = true ∧ W (pj lw) 37 67 L (fld H a 10 :: S) k n H Q) := W_getf (rfl : (pj lw).1 37 64 = some (.getfield 22, 3, 10))
theorem w37_67 {x : Int32} {l0 : Slot} : W (pj lw) 37 67 (l0 :: .val (.int x) :: L) S k n H Q ↔ W (pj lw) 37 68 (l0 :: .val (.int x) :: L) (.int x :: S) k n H Q := W_s (rfl : (pj lw).1 37 67 = some (.iload_n 1, 1, 0)) rfl rfl rfl
theorem w37_68 : W (pj lw) 37 68 L S k n H Q ↔ W (pj lw) 37 69 L (.int 0 :: S) k n H Q := W_s (rfl : (pj lw).1 37 68 = some (.iconst 0, 1, 0)) rfl rfl rfl
theorem w37_69 {x i : Int32} {a : Nat} : W (pj lw) 37 69 L (.int x :: .int i :: .ref a :: S) k n H Q ↔ (inAw H a .int i = true ∧ W (pj lw) 37 70 L S k n (wr H a i.toNatClampNeg (.int x)) Q) := W_iastore (rfl : (pj lw).1 37 69 = some (.iastore, 1, 0))
theorem w37_70 : W (pj lw) 37 70 L [] k n H Q ↔ Q none H := W_r (rfl : (pj lw).1 37 70 = some (.return_, 1, 0)) rfl
end Pc
section A
variable {lw : LW} {H : AH} {p j : Nat} {s : St} {Q : Option Value → AH → Prop} {a b c d : Int32} {h : Nat → Cel} {k n : Nat}
theorem t15 : Cl (pj lw) 15 [.ref p, .int a, .int b, .int c] H Q ↔ Q (some (.int (cl b c a))) H := by
  rw [c15]
  by_cases h1 : a < b <;> by_cases h2 : c < a <;> simp +decide only [w15_0, w15_1, w15_2, w15_5, w15_6, w15_7, w15_8, w15_9, w15_12, w15_13, w15_14, w15_15, ↓reduceIte, h1, h2, cl]
theorem l1 (m : Nat) : ∀ (i : Int32) (s : St), i.toInt = 32 - m → m ≤ 32 → (W (pj lw) 1 141 [.val (.ref p), .val (.int a), .val (.int b), .val (.int c), .val (.int i)] [] k n (ob H p s) Q ↔ Q none (ob H p (fA s 13 i.toNatClampNeg 32 (-1)))) := by
  induction m with
  | zero =>
    intro i s hi _
    have h1 : ¬ i < 32 := by rw [lt32]; simp only [Int32.reduceToInt]; omega
    rw [w1_141]; simp +decide only [w1_143, w1_145, w1_162, ↓reduceIte, h1]
    rw [fA_nil (by rw [cln]; omega)]
  | succ m ih =>
    intro i s hi hm
    have h1 : i < 32 := by rw [lt32]; simp only [Int32.reduceToInt]; omega
    have h2 : (i + 1).toInt = i.toInt + 1 := ia (by simp only [Int32.reduceToInt]; omega) (by simp only [Int32.reduceToInt]; omega)
    have h3 : 0 ≤ i.toInt ∧ i.toInt < 32 := by omega
    rw [w1_141]; simp +decide only [w1_143, w1_145, w1_148, w1_149, w1_152, w1_154, w1_155, w1_156, w1_159, isO_put, true_and, and_true, ↓reduceIte, g18, aw13, as13, h1, h3]
    rw [ih (i + 1) _ (by omega) (by omega)]
    have h4 : (i + 1).toNatClampNeg = i.toNatClampNeg + 1 := by rw [cln, cln]; omega
    rw [h4, fA_step (by rw [cln]; omega)]
def ini0 (a b c : Int32) : St := fA (uI (uI (uI z0 0 (cl 1 4 a)) 1 (cl 2 16 b)) 2 (cl 1 8 c)) 13 0 32 (-1)
set_option maxRecDepth 100000 in
theorem t1 : Cl (pj lw) 1 [.ref p, .int a, .int b, .int c] (put lay 0 (p + 1, h) p z0) Q ↔ Q none (ob (p + 14, h) p (ini0 a b c)) := by
  rw [c1]; simp +decide only [w1_0, w1_1, w1_4, w1_5, w1_6, w1_8, w1_11, w1_12, w1_13, w1_15, w1_18, w1_19, w1_20, w1_22, w1_25, w1_26, w1_27, w1_29, w1_32, w1_33, w1_34, w1_36, w1_39, w1_40, w1_42, w1_44, w1_47, w1_48, w1_50, w1_52, w1_55, w1_56, w1_58, w1_60, w1_63, w1_64, w1_66, w1_68, w1_71, w1_72, w1_74, w1_76, w1_79, w1_80, w1_82, w1_84, w1_87, w1_88, w1_90, w1_92, w1_95, w1_96, w1_98, w1_100, w1_103, w1_104, w1_105, w1_106, w1_107, w1_108, w1_111, w1_114, w1_115, w1_116, w1_117, w1_118, w1_120, w1_123, w1_126, w1_127, w1_128, w1_129, w1_130, w1_132, w1_135, w1_138, w1_139, zr_z0, isO_put, isOw_put, put_fst, okv_int, okv_ref, cs_nil, cs_ref, Option.toList_some, List.cons_append, List.nil_append, true_and, and_true, Nat.reduceAdd, Int32.reduceAdd, Int64.reduceAdd, Nat.add_zero, Nat.zero_add, Nat.le_refl, s0, s1, s2, mk1, io1, mk2, io2, mk3, io3, mk4, io4, mk5, io5, mk6, io6, mk7, io7, mk8, io8, mk9, io9, mk10, io10, mk11, io11, mk12, io12, mk13, io13, t15]
  rw [l1 32 0 _ (by decide) (by decide)]
  simp only [ini0, Int32.reduceToNatClampNeg]
end A

section B
variable {lw : LW} {H : AH} {p j : Nat} {s s' : St} {Q : Option Value → AH → Prop} {a b c d : Int32} {h : Nat → Cel} {k n : Nat}
def bz (x : Bool) : Int32 := if x = true then 1 else 0
theorem bz_t : bz true = 1 := rfl
theorem bz_f : bz false = 0 := rfl
def Ev (s : St) : Prop := (1 ≤ (sI s 0).toInt ∧ (sI s 0).toInt ≤ 4) ∧ (2 ≤ (sI s 1).toInt ∧ (sI s 1).toInt ≤ 16) ∧ (0 ≤ (sI s 4).toInt ∧ (sI s 4).toInt ≤ 32)
theorem Ev.of (h : Ev s) (h0 : sI s' 0 = sI s 0) (h1 : sI s' 1 = sI s 1) (h4 : sI s' 4 = sI s 4) : Ev s' := by unfold Ev; rw [h0, h1, h4]; exact h
def pc (s : St) : Nat := (sI s 4).toInt.toNat
def anyN (f : Nat → Bool) : Nat → Nat → Bool
  | _, 0 => false
  | j, k + 1 => if f j = true then true else anyN f (j + 1) k
def drn (s : St) (i : Nat) : Int32 := if sA s 7 i < sA s 8 i then 1 else -1
theorem t17 (h1 : 0 ≤ a.toInt ∧ a.toInt < 32) : Cl (pj lw) 17 [.ref p, .int a] (ob H p s) Q ↔ Q (some (.int (drn s a.toNatClampNeg))) (ob H p s) := by
  rw [c17]; unfold drn
  by_cases e : sA s 7 a.toNatClampNeg < sA s 8 a.toNatClampNeg <;> simp +decide only [w17_0, w17_1, w17_4, w17_5, w17_6, w17_7, w17_10, w17_11, w17_12, w17_15, w17_16, w17_19, w17_20, isO_put, true_and, and_true, ↓reduceIte, g12, g13, ai7, ae7, ai8, ae8, h1, e]
def slI (f x : Int32) : Int32 := f * 2 + (if x = 1 then 0 else 1)
theorem t18 : Cl (pj lw) 18 [.ref p, .int a, .int b] (ob H p s) Q ↔ Q (some (.int (slI a b))) (ob H p s) := by
  rw [c18]; unfold slI
  by_cases e : b = 1 <;> simp +decide only [w18_0, w18_1, w18_2, w18_3, w18_4, w18_5, w18_8, w18_9, w18_12, w18_13, w18_14, ↓reduceIte, e]
def wdF (s : St) (f x : Int32) (i : Nat) : Bool := decide (sA s 6 i = 1 ∧ sA s 7 i = f ∧ drn s i = x)
def wd (s : St) (f x : Int32) : Bool := anyN (wdF s f x) 0 (pc s)
def rdF (s : St) (c g : Int32) (i : Nat) : Bool := decide (sA s 6 i = 2 ∧ sA s 12 i = c ∧ sA s 8 i = g)
def rd (s : St) (c g : Int32) : Bool := anyN (rdF s c g) 0 (pc s)
theorem l19 (m : Nat) : ∀ (i : Int32), (sI s 4).toInt ≤ 32 → i.toInt = (sI s 4).toInt - m → 0 ≤ i.toInt →
    (W (pj lw) 19 2 [.val (.ref p), .val (.int a), .val (.int b), .val (.int i)] [] k n (ob H p s) Q ↔ Q (some (.int (bz (anyN (wdF s a b) i.toNatClampNeg m)))) (ob H p s)) := by
  induction m with
  | zero =>
    intro i hn hi h0
    have h1 : ¬ i < sI s 4 := by rw [lt32]; omega
    rw [w19_2]; simp +decide only [w19_3, w19_4, w19_7, w19_47, w19_48, isO_put, true_and, ↓reduceIte, g4, h1, anyN, bz_f]
  | succ m ih =>
    intro i hn hi h0
    have h1 : i < sI s 4 := by rw [lt32]; omega
    have h2 : (i + 1).toInt = i.toInt + 1 := ia (by simp only [Int32.reduceToInt]; omega) (by simp only [Int32.reduceToInt]; omega)
    have h3 : 0 ≤ i.toInt ∧ i.toInt < 32 := by omega
    have h4 : (i + 1).toNatClampNeg = i.toNatClampNeg + 1 := by rw [cln, cln]; omega
    have key := ih (i + 1) hn (by omega) (by omega)
    rw [h4] at key
    rw [anyN, w19_2]
    rcases Classical.propComplete (sA s 6 i.toNatClampNeg = 1) with e1 | e1 <;> rcases Classical.propComplete (sA s 7 i.toNatClampNeg = a) with e2 | e2 <;> rcases Classical.propComplete (drn s i.toNatClampNeg = b) with e3 | e3 <;>
    simp +decide only [w19_3, w19_4, w19_7, w19_10, w19_11, w19_14, w19_15, w19_16, w19_17, w19_20, w19_21, w19_24, w19_25, w19_26, w19_27, w19_30, w19_31, w19_32, w19_35, w19_36, w19_39, w19_40, w19_41, w19_44, isO_put, Option.toList_some, List.cons_append, List.nil_append, true_and, and_true, and_false, ↓reduceIte, g4, g11, g12, ai6, ae6, ai7, ae7, h1, h3, t17 h3, e1, e2, e3, key, bz_t, wdF, and_true, and_false, true_and, decide_true, decide_false, and_self]
theorem t19 (hE : Ev s) : Cl (pj lw) 19 [.ref p, .int a, .int b] (ob H p s) Q ↔ Q (some (.int (bz (wd s a b)))) (ob H p s) := by
  rw [c19]; simp +decide only [w19_0, w19_1]
  rw [l19 (pc s) 0 hE.2.2.2 (by unfold pc; simp only [Int32.reduceToInt]; have := hE.2.2; omega) (by decide)]; rfl
theorem l21 (m : Nat) : ∀ (i : Int32), (sI s 4).toInt ≤ 32 → i.toInt = (sI s 4).toInt - m → 0 ≤ i.toInt →
    (W (pj lw) 21 2 [.val (.ref p), .val (.int a), .val (.int b), .val (.int i)] [] k n (ob H p s) Q ↔ Q (some (.int (bz (anyN (rdF s a b) i.toNatClampNeg m)))) (ob H p s)) := by
  induction m with
  | zero =>
    intro i hn hi h0
    have h1 : ¬ i < sI s 4 := by rw [lt32]; omega
    rw [w21_2]; simp +decide only [w21_3, w21_4, w21_7, w21_48, w21_49, isO_put, true_and, ↓reduceIte, g4, h1, anyN, bz_f]
  | succ m ih =>
    intro i hn hi h0
    have h1 : i < sI s 4 := by rw [lt32]; omega
    have h2 : (i + 1).toInt = i.toInt + 1 := ia (by simp only [Int32.reduceToInt]; omega) (by simp only [Int32.reduceToInt]; omega)
    have h3 : 0 ≤ i.toInt ∧ i.toInt < 32 := by omega
    have h4 : (i + 1).toNatClampNeg = i.toNatClampNeg + 1 := by rw [cln, cln]; omega
    have key := ih (i + 1) hn (by omega) (by omega)
    rw [h4] at key
    rw [anyN, w21_2]
    rcases Classical.propComplete (sA s 6 i.toNatClampNeg = 2) with e1 | e1 <;> rcases Classical.propComplete (sA s 12 i.toNatClampNeg = a) with e2 | e2 <;> rcases Classical.propComplete (sA s 8 i.toNatClampNeg = b) with e3 | e3 <;>
    simp +decide only [w21_3, w21_4, w21_7, w21_10, w21_11, w21_14, w21_15, w21_16, w21_17, w21_20, w21_21, w21_24, w21_25, w21_26, w21_27, w21_30, w21_31, w21_34, w21_35, w21_36, w21_37, w21_40, w21_41, w21_42, w21_45, isO_put, true_and, and_true, and_false, ↓reduceIte, g4, g11, g13, g17, ai6, ae6, ai8, ae8, ai12, ae12, h1, h3, e1, e2, e3, key, bz_t, rdF, and_true, and_false, true_and, decide_true, decide_false, and_self]
theorem t21 (hE : Ev s) : Cl (pj lw) 21 [.ref p, .int a, .int b] (ob H p s) Q ↔ Q (some (.int (bz (rd s a b)))) (ob H p s) := by
  rw [c21]; simp +decide only [w21_0, w21_1]
  rw [l21 (pc s) 0 hE.2.2.2 (by unfold pc; simp only [Int32.reduceToInt]; have := hE.2.2; omega) (by decide)]; rfl
def asg (s : St) (f x c : Int32) : Bool := decide (¬ f < 0 ∧ f < sI s 1) && (wd s f x && decide (sA s 13 (slI f x).toNatClampNeg = c))
theorem slI_rg (hE : Ev s) (h1 : ¬ a < 0) (h2 : a < sI s 1) : 0 ≤ (slI a b).toInt ∧ (slI a b).toInt < 32 := by
  rw [lt32] at h1 h2; simp only [Int32.reduceToInt] at h1
  have := hE.2.1
  have e : (a * 2).toInt = a.toInt * 2 := im (by simp only [Int32.reduceToInt]; omega) (by simp only [Int32.reduceToInt]; omega)
  unfold slI; split
  · rw [ia (by rw [e]; simp only [Int32.reduceToInt]; omega) (by rw [e]; simp only [Int32.reduceToInt]; omega), e]; simp only [Int32.reduceToInt]; omega
  · rw [ia (by rw [e]; simp only [Int32.reduceToInt]; omega) (by rw [e]; simp only [Int32.reduceToInt]; omega), e]; simp only [Int32.reduceToInt]; omega
theorem t20 (hE : Ev s) : Cl (pj lw) 20 [.ref p, .int a, .int b, .int c] (ob H p s) Q ↔ Q (some (.int (bz (asg s a b c)))) (ob H p s) := by
  rw [c20]; unfold asg
  by_cases e1 : a < 0
  · simp +decide only [w20_0, w20_1, w20_12, w20_13, true_and, false_and, not_true_eq_false, ↓reduceIte, e1, decide_false, Bool.false_and, bz_f]
  by_cases e2 : a < sI s 1
  · have h3 := slI_rg (b := b) hE e1 e2
    cases e3 : wd s a b
    · simp +decide only [w20_0, w20_1, w20_4, w20_5, w20_6, w20_9, w20_14, w20_15, w20_16, w20_17, w20_20, w20_23, w20_24, isO_put, Option.toList_some, List.cons_append, List.nil_append, true_and, and_true, false_and, not_false_eq_true, ↓reduceIte, g1, e1, e2, e3, t19 hE, bz_f, decide_true, Bool.true_and, Bool.false_and]
    · rcases Classical.propComplete (sA s 13 (slI a b).toNatClampNeg = c) with e4 | e4 <;>
      simp +decide only [w20_0, w20_1, w20_4, w20_5, w20_6, w20_9, w20_14, w20_15, w20_16, w20_17, w20_20, w20_25, w20_26, w20_29, w20_30, w20_31, w20_32, w20_35, w20_36, w20_37, w20_40, w20_41, w20_44, w20_45, isO_put, cs_nil, cs_ref, Option.toList_some, List.cons_append, List.nil_append, true_and, and_true, not_false_eq_true, ↓reduceIte, Nat.reduceAdd, Nat.reduceLeDiff, Int32.reduceAdd, Int64.reduceAdd, Nat.add_zero, g1, g18, ai13, ae13, e1, e2, e3, e4, t19 hE, t18, h3, bz_t, bz_f, decide_true, decide_false, Bool.true_and]
  · simp +decide only [w20_0, w20_1, w20_4, w20_5, w20_6, w20_9, w20_12, w20_13, isO_put, true_and, false_and, and_false, not_false_eq_true, ↓reduceIte, g1, e1, e2, decide_false, Bool.false_and, bz_f]
def tg (s : St) (c g : Int32) : Bool := rd s c g || (asg s g 1 c || asg s g (-1) c)
theorem t22 (hE : Ev s) : Cl (pj lw) 22 [.ref p, .int a, .int b] (ob H p s) Q ↔ Q (some (.int (bz (tg s a b)))) (ob H p s) := by
  rw [c22]; unfold tg
  cases e1 : rd s a b <;> cases e2 : asg s b 1 a <;> cases e3 : asg s b (-1) a <;>
  simp +decide only [w22_0, w22_1, w22_2, w22_3, w22_6, w22_9, w22_10, w22_11, w22_12, w22_13, w22_16, w22_19, w22_20, w22_21, w22_22, w22_23, w22_26, w22_29, w22_30, w22_33, w22_34, isO_put, Option.toList_some, List.cons_append, List.nil_append, true_and, and_true, or_false, or_true, ↓reduceIte, t21 hE, t20 hE, e1, e2, e3, bz_t, bz_f, Bool.or_true, Bool.or_false]
def byF (s : St) (c x : Int32) (g : Nat) : Bool := decide ((x = 1 ∧ sA s 1 c.toNatClampNeg < Int32.ofNat g) ∨ (x = -1 ∧ Int32.ofNat g < sA s 1 c.toNatClampNeg)) && tg s c (Int32.ofNat g)
def byd (s : St) (c x : Int32) : Bool := anyN (byF s c x) 0 (sI s 1).toInt.toNat
theorem l23 (hE : Ev s) (m : Nat) : ∀ (i : Int32), i.toInt = (sI s 1).toInt - m → 0 ≤ i.toInt → ∀ l5 : Slot, (l5 = .unset ∨ ∃ v, l5 = .val (.int v)) →
    (W (pj lw) 23 10 [.val (.ref p), .val (.int a), .val (.int b), .val (.int (sA s 1 a.toNatClampNeg)), .val (.int i), l5] [] k n (ob H p s) Q ↔ Q (some (.int (bz (anyN (byF s a b) i.toNatClampNeg m)))) (ob H p s)) := by
  have hb := hE.2.1
  induction m with
  | zero =>
    intro i hi h0 l5 hl
    have h1 : ¬ i < sI s 1 := by rw [lt32]; omega
    rw [w23_10]; simp +decide only [w23_12, w23_13, w23_16, w23_71, w23_72, isO_put, true_and, ↓reduceIte, g1, h1, anyN, bz_f]
  | succ m ih =>
    intro i hi h0 l5 hl
    have h1 : i < sI s 1 := by rw [lt32]; omega
    have h2 : (i + 1).toInt = i.toInt + 1 := ia (by simp only [Int32.reduceToInt]; omega) (by simp only [Int32.reduceToInt]; omega)
    have h4 : (i + 1).toNatClampNeg = i.toNatClampNeg + 1 := by rw [cln, cln]; omega
    have hof : Int32.ofNat i.toNatClampNeg = i := by rw [eq32, Int32.toInt_ofNat_of_lt (by rw [cln]; omega), cln]; omega
    have key := fun v => ih (i + 1) (by omega) (by omega) (.val (.int v)) (Or.inr ⟨v, rfl⟩)
    rw [h4] at key
    rw [anyN, w23_10]
    simp only [byF, hof]
    rcases hl with rfl | ⟨v, rfl⟩
    all_goals
      cases e5 : tg s a i <;> rcases Classical.propComplete (b = 1) with e1 | e1 <;> rcases Classical.propComplete (b = -1) with e2 | e2 <;> rcases Classical.propComplete (sA s 1 a.toNatClampNeg < i) with e3 | e3 <;> rcases Classical.propComplete (i < sA s 1 a.toNatClampNeg) with e4 | e4 <;>
      simp +decide only [w23_12, w23_13, w23_16, w23_19, w23_20, w23_21, w23_24, w23_26, w23_27, w23_30, w23_31, w23_32, w23_35, w23_37, w23_38, w23_41, w23_42, w23_45, w23_46i, w23_46, w23_48, w23_50, w23_53, w23_54, w23_55, w23_57, w23_60, w23_63, w23_64, w23_65, w23_68, isO_put, Option.toList_some, List.cons_append, List.nil_append, true_and, and_true, and_false, or_false, or_true, ↓reduceIte, g1, h1, t22 hE, e1, e2, e3, e4, e5, key, bz_t, bz_f, and_true, and_false, true_and, or_true, or_false, decide_true, decide_false, Bool.true_and, Bool.and_true, Bool.and_false]
theorem t23 (hE : Ev s) (ha : 0 ≤ a.toInt ∧ a.toInt < 4) : Cl (pj lw) 23 [.ref p, .int a, .int b] (ob H p s) Q ↔ Q (some (.int (bz (byd s a b)))) (ob H p s) := by
  rw [c23]; simp +decide only [w23_0, w23_1, w23_4, w23_5, w23_6, w23_7, w23_8, isO_put, true_and, and_true, g6, ai1, ae1, ha]
  rw [l23 hE (sI s 1).toInt.toNat 0 (by simp only [Int32.reduceToInt]; have := hE.2.1; omega) (by decide) .unset (Or.inl rfl)]; rfl
def rmm (s : St) (c : Int32) : Bool := decide (sA s 4 c.toNatClampNeg < sI s 2)
theorem t24 (ha : 0 ≤ a.toInt ∧ a.toInt < 4) : Cl (pj lw) 24 [.ref p, .int a] (ob H p s) Q ↔ Q (some (.int (bz (rmm s a)))) (ob H p s) := by
  rw [c24]; unfold rmm
  by_cases e : sA s 4 a.toNatClampNeg < sI s 2 <;> simp +decide only [w24_0, w24_1, w24_4, w24_5, w24_6, w24_7, w24_10, w24_13, w24_14, w24_17, w24_18, isO_put, true_and, and_true, ↓reduceIte, g2, g9, ai4, ae4, ha, e, bz_t, bz_f, decide_true, decide_false]
def sdr (s : St) (c : Int32) : Int32 := if sA s 3 c.toNatClampNeg = 0 then 1 else sA s 3 c.toNatClampNeg
def chs (s : St) (c : Int32) : Int32 :=
  if (byd s c (sdr s c) || wd s (sA s 1 c.toNatClampNeg) (sdr s c)) = true then sdr s c
  else if (byd s c (-(sdr s c)) || wd s (sA s 1 c.toNatClampNeg) (-(sdr s c))) = true then -(sdr s c) else 0
theorem t25 (hE : Ev s) (ha : 0 ≤ a.toInt ∧ a.toInt < 4) : Cl (pj lw) 25 [.ref p, .int a] (ob H p s) Q ↔ Q (some (.int (chs s a))) (ob H p s) := by
  rw [c25]; unfold chs
  have go : ∀ d : Int32, (W (pj lw) 25 19 [.val (.ref p), .val (.int a), .unset, .unset] [.int d] 0 0 (ob H p s) Q ↔ Q (some (.int (if (byd s a d || wd s (sA s 1 a.toNatClampNeg) d) = true then d else if (byd s a (-d) || wd s (sA s 1 a.toNatClampNeg) (-d)) = true then -d else 0))) (ob H p s)) := by
    intro d
    cases e1 : byd s a d <;> cases e2 : wd s (sA s 1 a.toNatClampNeg) d <;> cases e3 : byd s a (-d) <;> cases e4 : wd s (sA s 1 a.toNatClampNeg) (-d) <;>
    simp +decide only [w25_19, w25_20, w25_21, w25_24, w25_25, w25_26, w25_27, w25_28, w25_29, w25_30, w25_33, w25_36, w25_37, w25_38, w25_39, w25_42, w25_45, w25_46, w25_47, w25_48, w25_49, w25_50, w25_51, w25_54, w25_57, w25_58, w25_59, w25_60, w25_61, w25_64, w25_67, w25_68, w25_69, w25_70, w25_71, isO_put, Option.toList_some, List.cons_append, List.nil_append, true_and, and_true, ↓reduceIte, g6, ai1, ae1, ha, t23 hE ha, t19 hE, e1, e2, e3, e4, bz_t, bz_f]
  unfold sdr
  by_cases e : sA s 3 a.toNatClampNeg = 0
  · simp +decide only [w25_0, w25_1, w25_4, w25_5, w25_6, w25_18, isO_put, true_and, and_true, ↓reduceIte, g8, ai3, ae3, ha, e, go]
  · simp +decide only [w25_0, w25_1, w25_4, w25_5, w25_6, w25_9, w25_10, w25_13, w25_14, w25_15, isO_put, true_and, and_true, ↓reduceIte, g8, ai3, ae3, ha, e, go]
def eQ (s : St) (c : Nat) : Int32 := if sA s 2 c = 3 then sA s 1 c + sA s 3 c else sA s 1 c
def eD (s : St) (c : Nat) (f x : Int32) : Int32 :=
  if sA s 3 c = 1 then (if x = 1 ∧ ¬ f < eQ s c then f - eQ s c else if x = -1 then (sI s 1 - 1 - eQ s c) + (sI s 1 - 1 - f) else (sI s 1 - 1 - eQ s c) + (sI s 1 - 1) + f)
  else if sA s 3 c = -1 then (if x = -1 ∧ ¬ eQ s c < f then eQ s c - f else if x = 1 then eQ s c + f else eQ s c + (sI s 1 - 1) + (sI s 1 - 1 - f))
  else (if ¬ f < eQ s c then f - eQ s c else eQ s c - f)
def etS (s : St) (c : Nat) (f x : Int32) : Int32 := if sA s 4 c = sI s 2 then 2 * eD s c f x + 64 else 2 * eD s c f x
set_option maxRecDepth 100000 in
theorem t30 (ha : 0 ≤ a.toInt ∧ a.toInt < 4) : Cl (pj lw) 30 [.ref p, .int a, .int b, .int c] (ob H p s) Q ↔ Q (some (.int (etS s a.toNatClampNeg b c))) (ob H p s) := by
  have fin : ∀ (l4 l5 l6 l7 : Slot) (d : Int32), W (pj lw) 30 181 [.val (.ref p), .val (.int a), .val (.int b), .val (.int c), l4, l5, l6, l7, .val (.int d), .unset] [] 0 0 (ob H p s) Q ↔ Q (some (.int (if sA s 4 a.toNatClampNeg = sI s 2 then 2 * d + 64 else 2 * d))) (ob H p s) := by
    intro l4 l5 l6 l7 d
    rcases Classical.propComplete (sA s 4 a.toNatClampNeg = sI s 2) with e | e <;> simp +decide only [w30_181, w30_182, w30_184, w30_185, w30_187, w30_188, w30_191, w30_192, w30_193, w30_194, w30_197, w30_200, w30_203, w30_205, isO_put, true_and, and_true, ↓reduceIte, g2, g9, ai4, ae4, ha, e]
  have mid : ∀ q : Int32, W (pj lw) 30 36 [.val (.ref p), .val (.int a), .val (.int b), .val (.int c), .val (.int (sA s 1 a.toNatClampNeg)), .val (.int (sA s 3 a.toNatClampNeg)), .unset, .unset, .unset, .unset] [.int q] 0 0 (ob H p s) Q ↔ Q (some (.int (if sA s 4 a.toNatClampNeg = sI s 2 then 2 * (if sA s 3 a.toNatClampNeg = 1 then (if c = 1 ∧ ¬ b < q then b - q else if c = -1 then (sI s 1 - 1 - q) + (sI s 1 - 1 - b) else (sI s 1 - 1 - q) + (sI s 1 - 1) + b)
      else if sA s 3 a.toNatClampNeg = -1 then (if c = -1 ∧ ¬ q < b then q - b else if c = 1 then q + b else q + (sI s 1 - 1) + (sI s 1 - 1 - b))
      else (if ¬ b < q then b - q else q - b)) + 64 else 2 * (if sA s 3 a.toNatClampNeg = 1 then (if c = 1 ∧ ¬ b < q then b - q else if c = -1 then (sI s 1 - 1 - q) + (sI s 1 - 1 - b) else (sI s 1 - 1 - q) + (sI s 1 - 1) + b)
      else if sA s 3 a.toNatClampNeg = -1 then (if c = -1 ∧ ¬ q < b then q - b else if c = 1 then q + b else q + (sI s 1 - 1) + (sI s 1 - 1 - b))
      else (if ¬ b < q then b - q else q - b))))) (ob H p s) := by
    intro q
    rcases Classical.propComplete (sA s 3 a.toNatClampNeg = 1) with e1 | e1 <;> rcases Classical.propComplete (sA s 3 a.toNatClampNeg = -1) with e2 | e2 <;> rcases Classical.propComplete (c = 1) with e3 | e3 <;> rcases Classical.propComplete (c = -1) with e4 | e4 <;> rcases Classical.propComplete (b < q) with e5 | e5 <;> rcases Classical.propComplete (q < b) with e6 | e6 <;>
    simp +decide only [w30_36, w30_38, w30_39, w30_42, w30_43, w30_44, w30_46, w30_48, w30_49, w30_52, w30_53, w30_54, w30_57, w30_58, w30_60, w30_63, w30_64, w30_66, w30_67, w30_69, w30_72, w30_73, w30_74, w30_77, w30_79, w30_81, w30_82, w30_84, w30_85, w30_86, w30_87, w30_89, w30_92, w30_94, w30_96, w30_97, w30_99, w30_100, w30_101, w30_102, w30_104, w30_107, w30_109, w30_110, w30_113, w30_114, w30_115, w30_118, w30_119, w30_121, w30_124, w30_126, w30_127, w30_128, w30_130, w30_133, w30_134, w30_135, w30_138, w30_140, w30_141, w30_142, w30_144, w30_147, w30_149, w30_151, w30_152, w30_154, w30_155, w30_156, w30_157, w30_159, w30_162, w30_163, w30_165, w30_168, w30_169, w30_171, w30_172, w30_175, w30_177, w30_178, w30_179, isO_put, true_and, and_true, and_false, not_true_eq_false, not_false_eq_true, ↓reduceIte, g1, e1, e2, e3, e4, e5, e6, fin]
  rw [c30]; unfold etS eD eQ
  rcases Classical.propComplete (sA s 2 a.toNatClampNeg = 3) with e | e <;> simp +decide only [w30_0, w30_1, w30_4, w30_5, w30_6, w30_8, w30_9, w30_12, w30_13, w30_14, w30_16, w30_17, w30_20, w30_21, w30_22, w30_23, w30_26, w30_28, w30_30, w30_31, w30_34, isO_put, true_and, and_true, ↓reduceIte, g6, g7, g8, ai1, ae1, ai2, ae2, ai3, ae3, ha, e, mid]
end B

section C
variable {lw : LW} {H : AH} {p j : Nat} {s s' : St} {Q : Option Value → AH → Prop} {a b c d : Int32} {h : Nat → Cel} {k n : Nat}
def itF (f : St → Nat → St) : Nat → Nat → St → St
  | 0, _, s => s
  | m + 1, e, s => itF f m (e + 1) (f s e)
theorem itF_inv {f : St → Nat → St} {I : St → Prop} (hf : ∀ s e, I s → I (f s e)) : ∀ (m e : Nat) (s : St), I s → I (itF f m e s)
  | 0, _, _, h => h
  | m + 1, e, s, h => itF_inv hf m (e + 1) (f s e) (hf s e h)
theorem itF_ind {f : St → Nat → St} {I : St → Prop} : ∀ (m e : Nat) (s : St), (∀ s k, e ≤ k → k < e + m → I s → I (f s k)) → I s → I (itF f m e s)
  | 0, _, _, _, h => h
  | m + 1, e, s, hf, h => itF_ind m (e + 1) (f s e) (fun s k a b => hf s k (by omega) (by omega)) (hf s e (Nat.le_refl _) (by omega) h)
theorem ofn {i : Int32} (h : 0 ≤ i.toInt ∧ i.toInt < 1000) : Int32.ofNat i.toNatClampNeg = i := by rw [eq32, Int32.toInt_ofNat_of_lt (by rw [cln]; omega), cln]; omega
def bsF (s : St) (f x : Int32) : Nat → Nat → Int32 → Int32 → Int32 × Int32
  | 0, _, b, e => (b, e)
  | m + 1, c, b, e => if b = -1 ∨ etS s c f x < e then bsF s f x m (c + 1) (Int32.ofNat c) (etS s c f x) else bsF s f x m (c + 1) b e
def asB0 (s : St) (f x : Int32) (be : Int32 × Int32) : Int32 :=
  if (¬ sA s 13 (slI f x).toNatClampNeg < 0 ∧ sA s 13 (slI f x).toNatClampNeg < sI s 0) ∧ etS s (sA s 13 (slI f x).toNatClampNeg).toNatClampNeg f x = be.2 then sA s 13 (slI f x).toNatClampNeg else be.1
def asB (s : St) (f x : Int32) : Int32 := asB0 s f x (bsF s f x (sI s 0).toInt.toNat 0 (-1) 0)
def asS (s : St) (f x : Int32) : St := if wd s f x = true then uA s 13 (slI f x).toNatClampNeg (asB s f x) else uA s 13 (slI f x).toNatClampNeg (-1)
theorem f29 (hE : Ev s) (hi : 0 ≤ (slI a b).toInt ∧ (slI a b).toInt < 32) {l6 l7 : Slot} (h6 : ∃ v, l6 = .val (.int v)) (hl : l7 = .unset ∨ ∃ v, l7 = .val (.int v)) :
    W (pj lw) 29 79 [.val (.ref p), .val (.int a), .val (.int b), .val (.int (slI a b)), .val (.int c), .val (.int d), l6, l7] [] k n (ob H p s) Q ↔ Q none (ob H p (uA s 13 (slI a b).toNatClampNeg (asB0 s a b (c, d)))) := by
  obtain ⟨v6, rfl⟩ := h6
  unfold asB0
  by_cases e1 : sA s 13 (slI a b).toNatClampNeg < 0
  · rcases hl with rfl | ⟨v, rfl⟩ <;> simp +decide only [w29_79, w29_80, w29_83, w29_84, w29_85i, w29_87, w29_89, w29_122, w29_123, w29_126, w29_127, w29_129, w29_130, isO_put, true_and, and_true, false_and, not_true_eq_false, ↓reduceIte, g18, ai13, aw13, ae13, as13, hi, e1]
  by_cases e2 : sA s 13 (slI a b).toNatClampNeg < sI s 0
  · have h4 : 0 ≤ (sA s 13 (slI a b).toNatClampNeg).toInt ∧ (sA s 13 (slI a b).toNatClampNeg).toInt < 4 := by
      rw [lt32] at e1 e2; simp only [Int32.reduceToInt] at e1; have := hE.1; omega
    rcases hl with rfl | ⟨v, rfl⟩ <;> rcases Classical.propComplete (etS s (sA s 13 (slI a b).toNatClampNeg).toNatClampNeg a b = d) with e3 | e3 <;> simp +decide only [w29_79, w29_80, w29_83, w29_84, w29_85i, w29_87, w29_89, w29_92, w29_94, w29_95, w29_98, w29_101, w29_102, w29_104, w29_105, w29_106, w29_109i, w29_109, w29_111, w29_113, w29_115, w29_118, w29_120i, w29_122, w29_123, w29_126, w29_127, w29_129, w29_130, isO_put, Option.toList_some, List.cons_append, List.nil_append, true_and, and_true, and_false, not_false_eq_true, ↓reduceIte, g0, g18, ai13, aw13, ae13, as13, hi, e1, e2, e3, t30 h4]
  · rcases hl with rfl | ⟨v, rfl⟩ <;> simp +decide only [w29_79, w29_80, w29_83, w29_84, w29_85i, w29_87, w29_89, w29_92, w29_94, w29_95, w29_98, w29_122, w29_123, w29_126, w29_127, w29_129, w29_130, isO_put, true_and, and_true, false_and, and_false, not_false_eq_true, ↓reduceIte, g0, g18, ai13, aw13, ae13, as13, hi, e1, e2]
theorem l29 (hE : Ev s) (hx : 0 ≤ (slI a b).toInt ∧ (slI a b).toInt < 32) (m : Nat) : ∀ (i c d : Int32), i.toInt = (sI s 0).toInt - m → 0 ≤ i.toInt → ∀ l7 : Slot, (l7 = .unset ∨ ∃ v, l7 = .val (.int v)) →
     (W (pj lw) 29 33 [.val (.ref p), .val (.int a), .val (.int b), .val (.int (slI a b)), .val (.int c), .val (.int d), .val (.int i), l7] [] k n (ob H p s) Q ↔ Q none (ob H p (uA s 13 (slI a b).toNatClampNeg (asB0 s a b (bsF s a b m i.toNatClampNeg c d))))) := by
  have hb := hE.1
  induction m with
  | zero =>
    intro i c d hi h0 l7 hl
    have h1 : ¬ i < sI s 0 := by rw [lt32]; omega
    rw [w29_33]; simp +decide only [w29_35, w29_36, w29_39, isO_put, true_and, ↓reduceIte, g0, h1]
    rw [f29 hE hx ⟨_, rfl⟩ hl, bsF]
  | succ m ih =>
    intro i c d hi h0 l7 hl
    have h1 : i < sI s 0 := by rw [lt32]; omega
    have h2 : (i + 1).toInt = i.toInt + 1 := ia (by simp only [Int32.reduceToInt]; omega) (by simp only [Int32.reduceToInt]; omega)
    have h3 : 0 ≤ i.toInt ∧ i.toInt < 4 := by omega
    have h4 : (i + 1).toNatClampNeg = i.toNatClampNeg + 1 := by rw [cln, cln]; omega
    have hof := ofn (i := i) (by omega)
    have key := fun c d v => ih (i + 1) c d (by omega) (by omega) (.val (.int v)) (Or.inr ⟨v, rfl⟩)
    rw [h4] at key
    rw [bsF, w29_33]
    rcases hl with rfl | ⟨v, rfl⟩ <;> rcases Classical.propComplete (c = -1) with e1 | e1 <;> rcases Classical.propComplete (etS s i.toNatClampNeg a b < d) with e2 | e2 <;>
    simp +decide only [w29_35, w29_36, w29_39, w29_42, w29_43, w29_45, w29_46, w29_47, w29_50i, w29_50, w29_52, w29_54, w29_55, w29_58, w29_60, w29_62, w29_65, w29_67i, w29_69, w29_71i, w29_73, w29_76, isO_put, Option.toList_some, List.cons_append, List.nil_append, true_and, and_true, or_false, or_true, ↓reduceIte, g0, h1, h3, t30 h3, e1, e2, key, hof]
theorem t29 (hE : Ev s) (h1 : ¬ a < 0) (h2 : a < sI s 1) : Cl (pj lw) 29 [.ref p, .int a, .int b] (ob H p s) Q ↔ Q none (ob H p (asS s a b)) := by
  have hx := slI_rg (b := b) hE h1 h2
  rw [c29]; unfold asS asB
  cases e : wd s a b
  · simp +decide only [w29_0, w29_1, w29_2, w29_3, w29_6, w29_7, w29_8, w29_9, w29_10, w29_13, w29_16, w29_17, w29_20, w29_21, w29_22, w29_23, isO_put, Option.toList_some, List.cons_append, List.nil_append, true_and, and_true, ↓reduceIte, g18, aw13, as13, hx, t18, t19 hE, e, bz_f]
  · simp +decide only [w29_0, w29_1, w29_2, w29_3, w29_6, w29_7, w29_8, w29_9, w29_10, w29_13, w29_24, w29_25, w29_27, w29_28, w29_30, w29_31, isO_put, Option.toList_some, List.cons_append, List.nil_append, true_and, and_true, ↓reduceIte, t18, t19 hE, e, bz_t]
    rw [l29 hE hx (sI s 0).toInt.toNat 0 (-1) 0 (by simp only [Int32.reduceToInt]; have := hE.1; omega) (by decide) .unset (Or.inl rfl)]
    simp only [Int32.reduceToNatClampNeg]
theorem asS_I {x : Nat} : sI (asS s a b) x = sI s x := by unfold asS; split <;> rw [sI_uA]
theorem asS_A {t i : Nat} (ht : t ≠ 13) : sA (asS s a b) t i = sA s t i := by unfold asS; split <;> simp only [sA_uA, ht, false_and, if_false]
theorem Ev_as (h : Ev s) : Ev (asS s a b) := h.of asS_I asS_I asS_I
def dpF (s : St) (g : Nat) : St := asS (asS s (Int32.ofNat g) 1) (Int32.ofNat g) (-1)
theorem dpF_I {x g : Nat} : sI (dpF s g) x = sI s x := by unfold dpF; rw [asS_I, asS_I]
theorem dpF_A {t i g : Nat} (ht : t ≠ 13) : sA (dpF s g) t i = sA s t i := by unfold dpF; rw [asS_A ht, asS_A ht]
def dpS (s : St) : St := itF dpF (sI s 1).toInt.toNat 0 s
theorem dpS_I {x : Nat} : sI (dpS s) x = sI s x := itF_inv (I := fun v => sI v x = sI s x) (fun v e g => by rw [dpF_I]; exact g) _ _ _ rfl
theorem dpS_A {t i : Nat} (ht : t ≠ 13) : sA (dpS s) t i = sA s t i := itF_inv (I := fun v => sA v t i = sA s t i) (fun v e g => by rw [dpF_A ht]; exact g) _ _ _ rfl
theorem l28 (m : Nat) : ∀ (i : Int32) (s : St), Ev s → i.toInt = (sI s 1).toInt - m → 0 ≤ i.toInt → ∀ l2 l3 : Slot, ((l2 = .unset ∧ l3 = .unset) ∨ ∃ u v, l2 = .val (.int u) ∧ l3 = .val (.int v)) →
    (W (pj lw) 28 2 [.val (.ref p), .val (.int i), l2, l3] [] k n (ob H p s) Q ↔ Q none (ob H p (itF dpF m i.toNatClampNeg s))) := by
  induction m with
  | zero =>
    intro i s hE hi h0 l2 l3 hl
    have h1 : ¬ i < sI s 1 := by rw [lt32]; omega
    rw [w28_2]; simp +decide only [w28_3, w28_4, w28_7, w28_45, isO_put, true_and, ↓reduceIte, g1, h1, itF]
  | succ m ih =>
    intro i s hE hi h0 l2 l3 hl
    have hb := hE.2.1
    have h1 : i < sI s 1 := by rw [lt32]; omega
    have n0 : ¬ i < 0 := by rw [lt32]; simp only [Int32.reduceToInt]; omega
    have h2 : (i + 1).toInt = i.toInt + 1 := ia (by simp only [Int32.reduceToInt]; omega) (by simp only [Int32.reduceToInt]; omega)
    have h4 : (i + 1).toNatClampNeg = i.toNatClampNeg + 1 := by rw [cln, cln]; omega
    have hof := ofn (i := i) (by omega)
    have key := fun u v => ih (i + 1) (dpF s i.toNatClampNeg) (hE.of dpF_I dpF_I dpF_I) (by rw [dpF_I]; omega) (by omega) (.val (.int u)) (.val (.int v)) (Or.inr ⟨u, v, rfl, rfl⟩)
    rw [h4] at key
    have A1 := fun (Q : Option Value → AH → Prop) => t29 (lw := lw) (H := H) (p := p) (Q := Q) (b := 1) hE n0 h1
    have A2 := fun (Q : Option Value → AH → Prop) => t29 (lw := lw) (H := H) (p := p) (Q := Q) (b := -1) (Ev_as (a := i) (b := 1) hE) n0 (by rw [asS_I]; exact h1)
    rw [itF, w28_2]
    unfold dpF at key ⊢
    rw [hof] at key ⊢
    rcases hl with ⟨rfl, rfl⟩ | ⟨u, v, rfl, rfl⟩ <;>
    simp +decide only [w28_3, w28_4, w28_7, w28_10, w28_11i, w28_11, w28_13, w28_14, w28_17, w28_18, w28_21, w28_22, w28_25, w28_26i, w28_26, w28_27, w28_28, w28_29, w28_30, w28_33, w28_36, w28_39, w28_42, w28_12, isO_put, Option.toList_none, List.nil_append, true_and, and_true, ↓reduceIte, Nat.reduceAdd, Nat.reduceLeDiff, Int32.reduceAdd, Int64.reduceAdd, g1, h1, A1, A2, key]
theorem t28 (hE : Ev s) : Cl (pj lw) 28 [.ref p] (ob H p s) Q ↔ Q none (ob H p (dpS s)) := by
  rw [c28]; simp +decide only [w28_0, w28_1]
  rw [l28 (sI s 1).toInt.toNat 0 s hE (by simp only [Int32.reduceToInt]; have := hE.2.1; omega) (by decide) .unset .unset (Or.inl ⟨rfl, rfl⟩)]
  simp only [Int32.reduceToNatClampNeg, dpS]
def arF (s : St) (i : Nat) : St := if sA s 6 i = 0 ∧ sA s 9 i = sI s 3 then uA s 6 i 1 else s
theorem arF_I {x g : Nat} : sI (arF s g) x = sI s x := by unfold arF; split <;> simp only [sI_uA]
theorem arF_A {t i g : Nat} (ht : t ≠ 6) : sA (arF s g) t i = sA s t i := by unfold arF; split <;> simp only [sA_uA, ht, false_and, if_false]
def arS (s : St) : St := itF arF (pc s) 0 s
theorem arS_I {x : Nat} : sI (arS s) x = sI s x := itF_inv (I := fun v => sI v x = sI s x) (fun v e g => by rw [arF_I]; exact g) _ _ _ rfl
theorem arS_A {t i : Nat} (ht : t ≠ 6) : sA (arS s) t i = sA s t i := itF_inv (I := fun v => sA v t i = sA s t i) (fun v e g => by rw [arF_A ht]; exact g) _ _ _ rfl
theorem l27 (m : Nat) : ∀ (i : Int32) (s : St), (sI s 4).toInt ≤ 32 → i.toInt = (sI s 4).toInt - m → 0 ≤ i.toInt →
    (W (pj lw) 27 2 [.val (.ref p), .val (.int i)] [] k n (ob H p s) Q ↔ Q none (ob H p (itF arF m i.toNatClampNeg s))) := by
  induction m with
  | zero =>
    intro i s hE hi h0
    have h1 : ¬ i < sI s 4 := by rw [lt32]; omega
    rw [w27_2]; simp +decide only [w27_3, w27_4, w27_7, w27_45, isO_put, true_and, ↓reduceIte, g4, h1, itF]
  | succ m ih =>
    intro i s hE hi h0
    have h1 : i < sI s 4 := by rw [lt32]; omega
    have h2 : (i + 1).toInt = i.toInt + 1 := ia (by simp only [Int32.reduceToInt]; omega) (by simp only [Int32.reduceToInt]; omega)
    have h3 : 0 ≤ i.toInt ∧ i.toInt < 32 := by omega
    have h4 : (i + 1).toNatClampNeg = i.toNatClampNeg + 1 := by rw [cln, cln]; omega
    have key := ih (i + 1) (arF s i.toNatClampNeg) (by rw [arF_I]; omega) (by rw [arF_I]; omega) (by omega)
    rw [h4] at key
    rw [itF, w27_2, ← key]
    unfold arF
    rcases Classical.propComplete (sA s 6 i.toNatClampNeg = 0) with e1 | e1 <;> rcases Classical.propComplete (sA s 9 i.toNatClampNeg = sI s 3) with e2 | e2 <;>
    simp +decide only [w27_3, w27_4, w27_7, w27_10, w27_11, w27_14, w27_15, w27_16, w27_19, w27_20, w27_23, w27_24, w27_25, w27_26, w27_29, w27_32, w27_33, w27_36, w27_37, w27_38, w27_39, w27_42, isO_put, true_and, and_true, and_false, ↓reduceIte, g3, g4, g11, g14, ai6, aw6, ae6, as6, ai9, ae9, h1, h3, e1, e2]
theorem t27 (hE : Ev s) : Cl (pj lw) 27 [.ref p] (ob H p s) Q ↔ Q none (ob H p (arS s)) := by
  rw [c27]; simp +decide only [w27_0, w27_1]
  rw [l27 (pc s) 0 s hE.2.2.2 (by unfold pc; simp only [Int32.reduceToInt]; have := hE.2.2; omega) (by decide)]
  simp only [Int32.reduceToNatClampNeg, arS]
def dl1 (s : St) (c : Int32) (i : Nat) : St := uI (uA (uA (uA s 6 i 3) 11 i (sI s 3)) 4 c.toNatClampNeg (sA s 4 c.toNatClampNeg - 1)) 5 (sI s 5 + 1)
def dlF (c f : Int32) : Nat → Nat → Int32 → St → Int32 × St
  | 0, _, y, s => (y, s)
  | m + 1, i, y, s => if rdF s c f i = true then dlF c f m (i + 1) 1 (dl1 s c i) else dlF c f m (i + 1) y s
def bd1 (s : St) (c : Int32) (i : Nat) : St := uA (uA (uA (uA s 6 i 2) 10 i (sI s 3)) 12 i c) 4 c.toNatClampNeg (sA s 4 c.toNatClampNeg + 1)
def bdF (c d f : Int32) : Nat → Nat → Int32 → St → Int32 × St
  | 0, _, y, s => (y, s)
  | m + 1, i, y, s => if rmm s c = true then (if wdF s f d i = true then bdF c d f m (i + 1) 1 (bd1 s c i) else bdF c d f m (i + 1) y s) else (y, s)
theorem dl1_I {x i : Nat} (hx : x ≠ 5) : sI (dl1 s c i) x = sI s x := by simp only [dl1, sI_uI, sI_uA, hx, if_false]
theorem dl1_A {t i u : Nat} (ht : t ≠ 6 ∧ t ≠ 11 ∧ t ≠ 4) : sA (dl1 s c i) t u = sA s t u := by simp only [dl1, sA_uI, sA_uA, ht.1, ht.2.1, ht.2.2, false_and, if_false]
theorem bd1_I {x i : Nat} : sI (bd1 s c i) x = sI s x := by simp only [bd1, sI_uA]
theorem bd1_A {t i u : Nat} (ht : t ≠ 6 ∧ t ≠ 10 ∧ t ≠ 12 ∧ t ≠ 4) : sA (bd1 s c i) t u = sA s t u := by simp only [bd1, sA_uA, ht.1, ht.2.1, ht.2.2.1, ht.2.2.2, false_and, if_false]
theorem dlF_I {x : Nat} {f : Int32} (hx : x ≠ 5) : ∀ (m i : Nat) (y : Int32) (s : St), sI (dlF c f m i y s).2 x = sI s x
  | 0, _, _, _ => rfl
  | m + 1, i, y, s => by rw [dlF]; split; rw [dlF_I hx, dl1_I hx]; rw [dlF_I hx]
theorem dlF_A {t u : Nat} {f : Int32} (ht : t ≠ 6 ∧ t ≠ 11 ∧ t ≠ 4) : ∀ (m i : Nat) (y : Int32) (s : St), sA (dlF c f m i y s).2 t u = sA s t u
  | 0, _, _, _ => rfl
  | m + 1, i, y, s => by rw [dlF]; split; rw [dlF_A ht, dl1_A ht]; rw [dlF_A ht]
theorem bdF_I {x : Nat} {f : Int32} : ∀ (m i : Nat) (y : Int32) (s : St), sI (bdF c d f m i y s).2 x = sI s x
  | 0, _, _, _ => rfl
  | m + 1, i, y, s => by
    rw [bdF]; split
    · split
      · rw [bdF_I, bd1_I]
      · rw [bdF_I]
    · rfl
theorem bdF_A {t u : Nat} {f : Int32} (ht : t ≠ 6 ∧ t ≠ 10 ∧ t ≠ 12 ∧ t ≠ 4) : ∀ (m i : Nat) (y : Int32) (s : St), sA (bdF c d f m i y s).2 t u = sA s t u
  | 0, _, _, _ => rfl
  | m + 1, i, y, s => by
    rw [bdF]; split
    · split
      · rw [bdF_A ht, bd1_A ht]
      · rw [bdF_A ht]
    · rfl
theorem dlF_y {f : Int32} : ∀ (m i : Nat) (y : Int32) (s : St), y = 0 ∨ y = 1 → (dlF c f m i y s).1 = 0 ∨ (dlF c f m i y s).1 = 1
  | 0, _, _, _, h => h
  | m + 1, i, y, s, h => by rw [dlF]; split; exact dlF_y m _ _ _ (Or.inr rfl); exact dlF_y m _ _ _ h
theorem bdF_y {f : Int32} : ∀ (m i : Nat) (y : Int32) (s : St), y = 0 ∨ y = 1 → (bdF c d f m i y s).1 = 0 ∨ (bdF c d f m i y s).1 = 1
  | 0, _, _, _, h => h
  | m + 1, i, y, s, h => by
    rw [bdF]; split
    · split
      · exact bdF_y m _ _ _ (Or.inr rfl)
      · exact bdF_y m _ _ _ h
    · exact h
theorem l35 {f : Int32} (ha : 0 ≤ a.toInt ∧ a.toInt < 4) (m : Nat) : ∀ (i y : Int32) (s : St), (y = 0 ∨ y = 1) → (sI s 4).toInt ≤ 32 → i.toInt = (sI s 4).toInt - m → 0 ≤ i.toInt →
    (W (pj lw) 35 12 [.val (.ref p), .val (.int a), .val (.int f), .val (.int y), .val (.int i)] [] k n (ob H p s) Q ↔ Q (some (.int (dlF a f m i.toNatClampNeg y s).1)) (ob H p (dlF a f m i.toNatClampNeg y s).2)) := by
  induction m with
  | zero =>
    intro i y s hy hE hi h0
    have h1 : ¬ i < sI s 4 := by rw [lt32]; omega
    rw [w35_12]; simp +decide only [w35_14, w35_15, w35_18, w35_105, w35_106, isO_put, true_and, ↓reduceIte, g4, h1, dlF, hy]
  | succ m ih =>
    intro i y s hy hE hi h0
    have h1 : i < sI s 4 := by rw [lt32]; omega
    have h2 : (i + 1).toInt = i.toInt + 1 := ia (by simp only [Int32.reduceToInt]; omega) (by simp only [Int32.reduceToInt]; omega)
    have h3 : 0 ≤ i.toInt ∧ i.toInt < 32 := by omega
    have h4 : (i + 1).toNatClampNeg = i.toNatClampNeg + 1 := by rw [cln, cln]; omega
    have k1 := ih (i + 1) y s hy hE (by omega) (by omega)
    have k2 := ih (i + 1) 1 (dl1 s a i.toNatClampNeg) (Or.inr rfl) (by rw [dl1_I (by decide)]; omega) (by rw [dl1_I (by decide)]; omega) (by omega)
    rw [h4] at k1 k2
    unfold dl1 at k2
    rw [dlF, w35_12]; unfold rdF dl1
    rcases Classical.propComplete (sA s 6 i.toNatClampNeg = 2) with e1 | e1 <;> rcases Classical.propComplete (sA s 12 i.toNatClampNeg = a) with e2 | e2 <;> rcases Classical.propComplete (sA s 8 i.toNatClampNeg = f) with e3 | e3 <;>
    simp +decide only [w35_14, w35_15, w35_18, w35_21, w35_22, w35_25, w35_27, w35_28, w35_29, w35_32, w35_33, w35_36, w35_38, w35_39, w35_40, w35_43, w35_44, w35_47, w35_49, w35_50, w35_51, w35_54, w35_55, w35_58, w35_60, w35_61, w35_62, w35_63, w35_66, w35_68, w35_69, w35_72, w35_73, w35_74, w35_77, w35_78, w35_79, w35_82, w35_83, w35_84, w35_85, w35_86, w35_87, w35_88, w35_89, w35_92, w35_93, w35_94, w35_97, w35_98i, w35_99, w35_102, isO_put, isOw_put, okv_int, sI_uA, sA_uA, true_and, and_true, false_and, and_false, ↓reduceIte, g3, g4, g5, s5, g9, g11, g13, g16, g17, ai4, aw4, ae4, as4, ai6, aw6, ae6, as6, ai8, ae8, aw11, as11, ai12, ae12, h1, h3, ha, e1, e2, e3, k1, k2, decide_true, decide_false, and_self, Bool.false_eq_true]
def dlv (s : St) (c : Int32) : Int32 × St := dlF c (sA s 1 c.toNatClampNeg) (pc s) 0 0 s
def brd (s : St) (c d : Int32) : Int32 × St := bdF c d (sA s 1 c.toNatClampNeg) (pc s) 0 0 s
theorem t35 (hE : Ev s) (ha : 0 ≤ a.toInt ∧ a.toInt < 4) : Cl (pj lw) 35 [.ref p, .int a] (ob H p s) Q ↔ Q (some (.int (dlv s a).1)) (ob H p (dlv s a).2) := by
  rw [c35]; simp +decide only [w35_0, w35_1, w35_4, w35_5, w35_6, w35_7, w35_8, w35_9, w35_10, isO_put, true_and, and_true, g6, ai1, ae1, ha]
  rw [l35 ha (pc s) 0 0 s (Or.inl rfl) hE.2.2.2 (by unfold pc; simp only [Int32.reduceToInt]; have := hE.2.2; omega) (by decide)]
  simp only [Int32.reduceToNatClampNeg, dlv]
theorem l36 {f : Int32} (ha : 0 ≤ a.toInt ∧ a.toInt < 4) (m : Nat) : ∀ (i y : Int32) (s : St), (y = 0 ∨ y = 1) → (sI s 4).toInt ≤ 32 → i.toInt = (sI s 4).toInt - m → 0 ≤ i.toInt →
    (W (pj lw) 36 13 [.val (.ref p), .val (.int a), .val (.int b), .val (.int f), .val (.int y), .val (.int i)] [] k n (ob H p s) Q ↔ Q (some (.int (bdF a b f m i.toNatClampNeg y s).1)) (ob H p (bdF a b f m i.toNatClampNeg y s).2)) := by
  induction m with
  | zero =>
    intro i y s hy hE hi h0
    have h1 : ¬ i < sI s 4 := by rw [lt32]; omega
    rw [w36_13]; simp +decide only [w36_15, w36_16, w36_19, w36_115, w36_117, isO_put, true_and, ↓reduceIte, g4, h1, bdF, hy]
  | succ m ih =>
    intro i y s hy hE hi h0
    have h1 : i < sI s 4 := by rw [lt32]; omega
    have h2 : (i + 1).toInt = i.toInt + 1 := ia (by simp only [Int32.reduceToInt]; omega) (by simp only [Int32.reduceToInt]; omega)
    have h3 : 0 ≤ i.toInt ∧ i.toInt < 32 := by omega
    have h4 : (i + 1).toNatClampNeg = i.toNatClampNeg + 1 := by rw [cln, cln]; omega
    have k1 := ih (i + 1) y s hy hE (by omega) (by omega)
    have k2 := ih (i + 1) 1 (bd1 s a i.toNatClampNeg) (Or.inr rfl) (by rw [bd1_I]; omega) (by rw [bd1_I]; omega) (by omega)
    rw [h4] at k1 k2
    unfold bd1 at k2
    rw [bdF, w36_13]; unfold wdF bd1
    cases e0 : rmm s a
    · simp +decide only [w36_15, w36_16, w36_19, w36_22, w36_23, w36_24, w36_27, w36_30, w36_115, w36_117, isO_put, Option.toList_some, List.cons_append, List.nil_append, true_and, and_true, ↓reduceIte, g4, h1, t24 ha, e0, bz_f, hy]
    · rcases Classical.propComplete (sA s 6 i.toNatClampNeg = 1) with e1 | e1 <;> rcases Classical.propComplete (sA s 7 i.toNatClampNeg = f) with e2 | e2 <;> rcases Classical.propComplete (drn s i.toNatClampNeg = b) with e3 | e3 <;>
      simp +decide only [w36_15, w36_16, w36_19, w36_22, w36_23, w36_24, w36_27, w36_33, w36_34, w36_37, w36_39, w36_40, w36_41, w36_44, w36_45, w36_48, w36_50, w36_51, w36_52, w36_55, w36_56, w36_58, w36_61, w36_62, w36_65, w36_66, w36_69, w36_71, w36_72, w36_73, w36_74, w36_77, w36_79, w36_80, w36_83, w36_84, w36_85, w36_88, w36_90, w36_91, w36_92, w36_93, w36_96, w36_97, w36_98, w36_101, w36_102, w36_103, w36_104, w36_105, w36_106, w36_107i, w36_109, w36_112, isO_put, sI_uA, sA_uA, Option.toList_some, List.cons_append, List.nil_append, true_and, and_true, false_and, and_false, ↓reduceIte, g3, g4, g9, g11, g12, g15, g17, ai4, aw4, ae4, as4, ai6, aw6, ae6, as6, ai7, ae7, aw10, as10, aw12, as12, h1, h3, ha, t24 ha, t17 h3, e0, bz_t, e1, e2, e3, k1, k2, decide_true, decide_false, and_self, Bool.false_eq_true]
theorem t36 (hE : Ev s) (ha : 0 ≤ a.toInt ∧ a.toInt < 4) : Cl (pj lw) 36 [.ref p, .int a, .int b] (ob H p s) Q ↔ Q (some (.int (brd s a b).1)) (ob H p (brd s a b).2) := by
  rw [c36]; simp +decide only [w36_0, w36_1, w36_4, w36_5, w36_6, w36_7, w36_8, w36_10, w36_11, isO_put, true_and, and_true, g6, ai1, ae1, ha]
  rw [l36 ha (pc s) 0 0 s (Or.inl rfl) hE.2.2.2 (by unfold pc; simp only [Int32.reduceToInt]; have := hE.2.2; omega) (by decide)]
  simp only [Int32.reduceToNatClampNeg, brd]
end C

section D
variable {lw : LW} {H : AH} {p j : Nat} {s s' : St} {Q : Option Value → AH → Prop} {a b c d : Int32} {h : Nat → Cel} {k n : Nat}
theorem Ev_A {t i : Nat} {v : Int32} (h : Ev s) : Ev (uA s t i v) := h.of sI_uA sI_uA sI_uA
def ss1 (s : St) (c : Int32) : St := uA s 3 c.toNatClampNeg (chs s c)
def ssS (s : St) (c : Int32) : St :=
  if chs s c = 0 then ss1 s c
  else if (rmm (ss1 s c) c && wd (ss1 s c) (sA s 1 c.toNatClampNeg) (chs s c)) = true then uA (uA (ss1 s c) 2 c.toNatClampNeg 1) 5 c.toNatClampNeg 3
  else if byd (ss1 s c) c (chs s c) = true then uA (uA (ss1 s c) 2 c.toNatClampNeg 3) 5 c.toNatClampNeg 3 else ss1 s c
theorem ss1_1 {i : Nat} : sA (ss1 s c) 1 i = sA s 1 i := by simp +decide only [ss1, sA_uA, false_and, ↓reduceIte]
theorem t32 (hE : Ev s) (ha : 0 ≤ a.toInt ∧ a.toInt < 4) : Cl (pj lw) 32 [.ref p, .int a] (ob H p s) Q ↔ Q none (ob H p (ssS s a)) := by
  have hE1 : Ev (ss1 s a) := Ev_A hE
  have A24 := fun (Q : Option Value → AH → Prop) => t24 (lw := lw) (H := H) (p := p) (s := ss1 s a) (Q := Q) ha
  have A19 := fun (f x : Int32) (Q : Option Value → AH → Prop) => t19 (lw := lw) (H := H) (p := p) (s := ss1 s a) (Q := Q) (a := f) (b := x) hE1
  have A23 := fun (x : Int32) (Q : Option Value → AH → Prop) => t23 (lw := lw) (H := H) (p := p) (s := ss1 s a) (Q := Q) (b := x) hE1 ha
  rw [c32]; unfold ssS
  by_cases e0 : chs s a = 0
  · simp +decide only [w32_0, w32_1, w32_2, w32_5, w32_6, w32_7, w32_10, w32_11, w32_12, w32_13, w32_14, w32_17, isO_put, Option.toList_some, List.cons_append, List.nil_append, true_and, and_true, ↓reduceIte, g8, aw3, as3, ha, t25 hE ha, e0, ss1]
  · have e1 : ∀ i, sA (ss1 s a) 1 i = sA s 1 i := fun i => ss1_1
    have u : uA s 3 a.toNatClampNeg (chs s a) = ss1 s a := rfl
    cases e2 : rmm (ss1 s a) a <;> cases e3 : wd (ss1 s a) (sA s 1 a.toNatClampNeg) (chs s a) <;> cases e4 : byd (ss1 s a) a (chs s a) <;>
    simp +decide only [w32_0, w32_1, w32_2, w32_5, w32_6, w32_7, w32_10, w32_11, w32_12, w32_13, w32_14, w32_18, w32_19, w32_20, w32_23, w32_26, w32_27, w32_28, w32_31, w32_32, w32_33, w32_34, w32_37, w32_40, w32_41, w32_44, w32_45, w32_46, w32_47, w32_48, w32_51, w32_52, w32_53, w32_54, w32_57, w32_58, w32_59, w32_60, w32_63, w32_66, w32_67, w32_70, w32_71, w32_72, w32_73, w32_74, w32_77, w32_78, w32_79, w32_80, isO_put, Option.toList_some, List.cons_append, List.nil_append, true_and, and_true, ↓reduceIte, g6, g7, g8, g10, ai1, ae1, aw2, as2, aw3, as3, aw5, as5, ha, t25 hE ha, e0, u, e1, A24, A19, A23, e2, e3, e4, bz_t, bz_f, Bool.and_true, Bool.true_and]
def scS (s : St) (c : Int32) : St :=
  if ¬ chs s c = 0 ∧ (rmm (ss1 s c) c && wd (ss1 s c) (sA s 1 c.toNatClampNeg) (chs s c)) = true then uA (uA (ss1 s c) 2 c.toNatClampNeg 1) 5 c.toNatClampNeg 3 else uA (uA (ss1 s c) 2 c.toNatClampNeg 0) 5 c.toNatClampNeg 0
theorem t37 (hE : Ev s) (ha : 0 ≤ a.toInt ∧ a.toInt < 4) : Cl (pj lw) 37 [.ref p, .int a] (ob H p s) Q ↔ Q none (ob H p (scS s a)) := by
  have hE1 : Ev (ss1 s a) := Ev_A hE
  have A24 := fun (Q : Option Value → AH → Prop) => t24 (lw := lw) (H := H) (p := p) (s := ss1 s a) (Q := Q) ha
  have A19 := fun (f x : Int32) (Q : Option Value → AH → Prop) => t19 (lw := lw) (H := H) (p := p) (s := ss1 s a) (Q := Q) (a := f) (b := x) hE1
  have e1 : ∀ i, sA (ss1 s a) 1 i = sA s 1 i := fun i => ss1_1
  have u : uA s 3 a.toNatClampNeg (chs s a) = ss1 s a := rfl
  rw [c37]; unfold scS
  by_cases e0 : chs s a = 0 <;> cases e2 : rmm (ss1 s a) a <;> cases e3 : wd (ss1 s a) (sA s 1 a.toNatClampNeg) (chs s a)
  all_goals try rw [e0] at u e3
  all_goals simp +decide only [w37_0, w37_1, w37_2, w37_5, w37_6, w37_7, w37_10, w37_11, w37_12, w37_13, w37_14, w37_17, w37_18, w37_19, w37_22, w37_25, w37_26, w37_27, w37_30, w37_31, w37_32, w37_33, w37_36, w37_39, w37_40, w37_43, w37_44, w37_45, w37_46, w37_47, w37_50, w37_51, w37_52, w37_53, w37_56, w37_57, w37_60, w37_61, w37_62, w37_63, w37_64, w37_67, w37_68, w37_69, w37_70, isO_put, Option.toList_some, List.cons_append, List.nil_append, true_and, and_true, and_false, not_true_eq_false, not_false_eq_true, ↓reduceIte, g6, g7, g8, g10, ai1, ae1, aw2, as2, aw3, as3, aw5, as5, ha, t25 hE ha, e0, u, e1, A24, A19, e2, e3, bz_t, bz_f, Bool.and_true, Bool.and_false, Bool.true_and]
def sm1 (s : St) (c : Int32) : St := uA s 5 c.toNatClampNeg (sA s 5 c.toNatClampNeg - 1)
def smf (s : St) (c : Int32) : Int32 := sA s 1 c.toNatClampNeg + sA s 3 c.toNatClampNeg
def sm2 (s : St) (c : Int32) : St := uA (sm1 s c) 1 c.toNatClampNeg (smf s c)
def smp (s : St) (c : Int32) : Bool := rd (sm2 s c) c (smf s c) || ((rmm (sm2 s c) c && asg (sm2 s c) (smf s c) (sA s 3 c.toNatClampNeg) c) || (!(byd (sm2 s c) c (sA s 3 c.toNatClampNeg)) && asg (sm2 s c) (smf s c) (-(sA s 3 c.toNatClampNeg)) c))
def smS (s : St) (c : Int32) : St :=
  if 0 < sA s 5 c.toNatClampNeg - 1 then sm1 s c
  else if smp s c = true then uA (uA (sm2 s c) 2 c.toNatClampNeg 1) 5 c.toNatClampNeg 3
  else if byd (sm2 s c) c (sA s 3 c.toNatClampNeg) = true then uA (sm2 s c) 5 c.toNatClampNeg 2
  else uA (uA (sm2 s c) 2 c.toNatClampNeg 0) 5 c.toNatClampNeg 0
set_option maxRecDepth 100000 in
theorem t33 (hE : Ev s) (ha : 0 ≤ a.toInt ∧ a.toInt < 4) : Cl (pj lw) 33 [.ref p, .int a] (ob H p s) Q ↔ Q none (ob H p (smS s a)) := by
  have hE2 : Ev (sm2 s a) := Ev_A (Ev_A hE)
  have A24 := fun (Q : Option Value → AH → Prop) => t24 (lw := lw) (H := H) (p := p) (s := sm2 s a) (Q := Q) ha
  have A21 := fun (x y : Int32) (Q : Option Value → AH → Prop) => t21 (lw := lw) (H := H) (p := p) (s := sm2 s a) (Q := Q) (a := x) (b := y) hE2
  have A20 := fun (x y z : Int32) (Q : Option Value → AH → Prop) => t20 (lw := lw) (H := H) (p := p) (s := sm2 s a) (Q := Q) (a := x) (b := y) (c := z) hE2
  have A23 := fun (x : Int32) (Q : Option Value → AH → Prop) => t23 (lw := lw) (H := H) (p := p) (s := sm2 s a) (Q := Q) (b := x) hE2 ha
  have u1 : uA s 5 a.toNatClampNeg (sA s 5 a.toNatClampNeg - 1) = sm1 s a := rfl
  have u3 : sA s 1 a.toNatClampNeg + sA s 3 a.toNatClampNeg = smf s a := rfl
  have u2 : uA (sm1 s a) 1 a.toNatClampNeg (smf s a) = sm2 s a := rfl
  have v1 : ∀ t i, t ≠ 5 → sA (sm1 s a) t i = sA s t i := fun t i ht => by simp only [sm1, sA_uA, ht, false_and, if_false]
  have v11 : ∀ i, sA (sm1 s a) 1 i = sA s 1 i := fun i => v1 1 i (by decide)
  have v13 : ∀ i, sA (sm1 s a) 3 i = sA s 3 i := fun i => v1 3 i (by decide)
  have v5 : sA (sm1 s a) 5 a.toNatClampNeg = sA s 5 a.toNatClampNeg - 1 := by simp +decide only [sm1, sA_uA, true_and, ↓reduceIte]
  rw [c33]; unfold smS smp
  by_cases e0 : 0 < sA s 5 a.toNatClampNeg - 1
  · simp +decide only [w33_0, w33_1, w33_4, w33_5, w33_6, w33_9, w33_10, w33_11, w33_12, w33_13, w33_14, w33_15, w33_18, w33_19, w33_20, w33_23, isO_put, true_and, and_true, ↓reduceIte, g10, ai5, aw5, ae5, as5, ha, u1, v5, e0]
  · cases e1 : rd (sm2 s a) a (smf s a) <;> cases e2 : rmm (sm2 s a) a <;> cases e3 : asg (sm2 s a) (smf s a) (sA s 3 a.toNatClampNeg) a <;> cases e4 : byd (sm2 s a) a (sA s 3 a.toNatClampNeg) <;> cases e5 : asg (sm2 s a) (smf s a) (-(sA s 3 a.toNatClampNeg)) a <;>
    simp +decide only [w33_0, w33_1, w33_4, w33_5, w33_6, w33_9, w33_10, w33_11, w33_12, w33_13, w33_14, w33_15, w33_18, w33_19, w33_20, w33_24, w33_25, w33_28, w33_29, w33_30, w33_31, w33_32, w33_35, w33_36, w33_37, w33_38, w33_39, w33_40, w33_41, w33_44, w33_45, w33_46, w33_47, w33_48, w33_49, w33_50, w33_53, w33_55, w33_56, w33_57, w33_58, w33_61, w33_64, w33_65, w33_66, w33_69, w33_72, w33_73, w33_74, w33_75, w33_76, w33_79, w33_82, w33_84, w33_87, w33_88, w33_89, w33_90, w33_91, w33_92, w33_95, w33_98, w33_99, w33_102, w33_103, w33_105, w33_107, w33_110, w33_111, w33_114, w33_115, w33_116, w33_117, w33_118, w33_121, w33_122, w33_123, w33_124, w33_127, w33_129, w33_132, w33_133, w33_136, w33_137, w33_138, w33_139, w33_142, w33_143, w33_146, w33_147, w33_148, w33_149, w33_150, w33_153, w33_154, w33_155, w33_156, isO_put, Option.toList_some, List.cons_append, List.nil_append, true_and, and_true, ↓reduceIte, g6, g7, g8, g10, ai1, aw1, ae1, as1, aw2, as2, ai3, ae3, ai5, aw5, ae5, as5, ha, u1, v5, e0, v11, v13, u3, u2, A24, A21, A20, A23, e1, e2, e3, e4, e5, bz_t, bz_f, Bool.and_true, Bool.true_and]
def so1 (s : St) (c : Int32) : St := (dlv s c).2
def so2 (s : St) (c : Int32) : St := uA (so1 s c) 3 c.toNatClampNeg (chs (so1 s c) c)
def so3 (s : St) (c : Int32) : St := if chs (so1 s c) c = 0 then so2 s c else (brd (so2 s c) c (chs (so1 s c) c)).2
def soc (s : St) (c : Int32) : Bool := decide (¬ (dlv s c).1 = 0 ∨ (¬ chs (so1 s c) c = 0 ∧ ¬ (brd (so2 s c) c (chs (so1 s c) c)).1 = 0))
def so4 (s : St) (c : Int32) : St := uA s 5 c.toNatClampNeg (sA s 5 c.toNatClampNeg - 1)
def soS (s : St) (c : Int32) : St :=
  if soc s c = true then uA (so3 s c) 5 c.toNatClampNeg 3
  else if sA (so3 s c) 5 c.toNatClampNeg - 1 = 0 then uA (so4 (so3 s c) c) 2 c.toNatClampNeg 2 else so4 (so3 s c) c
set_option maxRecDepth 100000 in
theorem t34 (hE : Ev s) (ha : 0 ≤ a.toInt ∧ a.toInt < 4) : Cl (pj lw) 34 [.ref p, .int a] (ob H p s) Q ↔ Q none (ob H p (soS s a)) := by
  have hE1 : Ev (so1 s a) := hE.of (dlF_I (by decide) _ _ _ _) (dlF_I (by decide) _ _ _ _) (dlF_I (by decide) _ _ _ _)
  have hE2 : Ev (so2 s a) := Ev_A hE1
  have A35 := fun (Q : Option Value → AH → Prop) => t35 (lw := lw) (H := H) (p := p) (s := s) (Q := Q) hE ha
  have u1 : (dlv s a).2 = so1 s a := rfl
  rw [u1] at A35
  have A25 := fun (Q : Option Value → AH → Prop) => t25 (lw := lw) (H := H) (p := p) (s := so1 s a) (Q := Q) hE1 ha
  have A36 := fun (x : Int32) (Q : Option Value → AH → Prop) => t36 (lw := lw) (H := H) (p := p) (s := so2 s a) (Q := Q) (b := x) hE2 ha
  have u2 : uA (so1 s a) 3 a.toNatClampNeg (chs (so1 s a) a) = so2 s a := rfl
  have end0 : ∀ (u : St) (l3 l4 : Slot) (y : Int32), W (pj lw) 34 46 [.val (.ref p), .val (.int a), .val (.int y), l3, l4] [] 0 0 (ob H p u) Q ↔ Q none (ob H p (if ¬ y = 0 then uA u 5 a.toNatClampNeg 3 else if sA u 5 a.toNatClampNeg - 1 = 0 then uA (so4 u a) 2 a.toNatClampNeg 2 else so4 u a)) := by
    intro u l3 l4 y
    rcases Classical.propComplete (y = 0) with e1 | e1 <;> rcases Classical.propComplete (sA u 5 a.toNatClampNeg - 1 = 0) with e2 | e2 <;> simp +decide only [w34_46, w34_47, w34_50, w34_51, w34_54, w34_55, w34_56, w34_57, w34_60, w34_61, w34_64, w34_65, w34_66, w34_69, w34_70, w34_71, w34_72, w34_73, w34_74, w34_75, w34_78, w34_79, w34_80, w34_83, w34_84, w34_87, w34_88, w34_89, w34_90, isO_put, sA_uA, true_and, and_true, not_true_eq_false, not_false_eq_true, ↓reduceIte, g7, g10, aw2, as2, ai5, aw5, ae5, as5, ha, so4, e1, e2]
  have y1 := dlF_y (c := a) (f := sA s 1 a.toNatClampNeg) (pc s) 0 0 s (Or.inl rfl)
  rw [show dlF a (sA s 1 a.toNatClampNeg) (pc s) 0 0 s = dlv s a from rfl] at y1
  rw [c34]; unfold soS so3 soc
  by_cases e0 : chs (so1 s a) a = 0
  · rw [e0] at u2
    simp +decide only [w34_0, w34_1, w34_2, w34_5, w34_6, w34_7, w34_8, w34_11, w34_12, w34_13, w34_16, w34_17, w34_18, w34_19, w34_20, isO_put, Option.toList_some, List.cons_append, List.nil_append, true_and, and_true, false_and, or_false, not_true_eq_false, ↓reduceIte, g8, aw3, as3, ha, A35, A25, e0, u2, end0]
    rcases y1 with e1 | e1 <;> simp +decide only [e1, ↓reduceIte, decide_true, decide_false]
  · have y2 := bdF_y (c := a) (d := chs (so1 s a) a) (f := sA (so2 s a) 1 a.toNatClampNeg) (pc (so2 s a)) 0 0 (so2 s a) (Or.inl rfl)
    rw [show bdF a (chs (so1 s a) a) (sA (so2 s a) 1 a.toNatClampNeg) (pc (so2 s a)) 0 0 (so2 s a) = brd (so2 s a) a (chs (so1 s a) a) from rfl] at y2
    rcases y1 with e1 | e1 <;> rcases y2 with e2 | e2 <;>
    simp +decide only [w34_0, w34_1, w34_2, w34_5, w34_6, w34_7, w34_8, w34_11, w34_12, w34_13, w34_16, w34_17, w34_18, w34_19, w34_20, w34_23, w34_24, w34_25, w34_26, w34_29, w34_31, w34_32, w34_35, w34_37, w34_40, w34_41, w34_44, w34_45i, isO_put, Option.toList_some, List.cons_append, List.nil_append, true_and, and_true, and_false, or_false, or_true, not_true_eq_false, not_false_eq_true, ↓reduceIte, g8, aw3, as3, ha, A35, A25, A36, e0, e1, e2, u2, end0, decide_true, decide_false, Bool.false_eq_true]
def rcS (s : St) (c : Int32) : St := if sA s 2 c.toNatClampNeg = 0 then ssS s c else if sA s 2 c.toNatClampNeg = 3 then smS s c else if sA s 2 c.toNatClampNeg = 1 then soS s c else if sA s 2 c.toNatClampNeg = 2 then scS s c else s
theorem t31 (hE : Ev s) (ha : 0 ≤ a.toInt ∧ a.toInt < 4) : Cl (pj lw) 31 [.ref p, .int a] (ob H p s) Q ↔ Q none (ob H p (rcS s a)) := by
  rw [c31]; unfold rcS
  by_cases e0 : sA s 2 a.toNatClampNeg = 0
  · simp +decide only [w31_0, w31_1, w31_4, w31_5, w31_6, w31_7, w31_8, w31_11, w31_12, w31_13, w31_16, w31_55, isO_put, Option.toList_none, List.nil_append, true_and, and_true, ↓reduceIte, g7, ai2, ae2, ha, e0, t32 hE ha]
  by_cases e3 : sA s 2 a.toNatClampNeg = 3
  · simp +decide only [w31_0, w31_1, w31_4, w31_5, w31_6, w31_7, w31_8, w31_19, w31_20, w31_21, w31_24, w31_25, w31_26, w31_29, w31_55, isO_put, Option.toList_none, List.nil_append, true_and, and_true, ↓reduceIte, g7, ai2, ae2, ha, e3, t33 hE ha]
  by_cases e1 : sA s 2 a.toNatClampNeg = 1
  · simp +decide only [w31_0, w31_1, w31_4, w31_5, w31_6, w31_7, w31_8, w31_19, w31_20, w31_21, w31_32, w31_33, w31_34, w31_37, w31_38, w31_39, w31_42, w31_55, isO_put, Option.toList_none, List.nil_append, true_and, and_true, ↓reduceIte, g7, ai2, ae2, ha, e1, t34 hE ha]
  by_cases e2 : sA s 2 a.toNatClampNeg = 2
  · simp +decide only [w31_0, w31_1, w31_4, w31_5, w31_6, w31_7, w31_8, w31_19, w31_20, w31_21, w31_32, w31_33, w31_34, w31_45, w31_46, w31_47, w31_50, w31_51, w31_52, w31_55, isO_put, Option.toList_none, List.nil_append, true_and, and_true, ↓reduceIte, g7, ai2, ae2, ha, e2, t37 hE ha]
  · simp +decide only [w31_0, w31_1, w31_4, w31_5, w31_6, w31_7, w31_8, w31_19, w31_20, w31_21, w31_32, w31_33, w31_34, w31_45, w31_46, w31_47, w31_55, isO_put, true_and, and_true, ↓reduceIte, g7, ai2, ae2, ha, e0, e1, e2, e3]
theorem ssS_I {x : Nat} : sI (ssS s c) x = sI s x := by unfold ssS ss1; (repeat' split) <;> simp only [sI_uA]
theorem scS_I {x : Nat} : sI (scS s c) x = sI s x := by unfold scS ss1; (repeat' split) <;> simp only [sI_uA]
theorem smS_I {x : Nat} : sI (smS s c) x = sI s x := by unfold smS sm2 sm1; (repeat' split) <;> simp only [sI_uA]
theorem so3_I {x : Nat} (hx : x ≠ 5) : sI (so3 s c) x = sI s x := by
  unfold so3; split
  · unfold so2 so1 dlv; rw [sI_uA, dlF_I hx]
  · unfold brd; rw [bdF_I]; unfold so2 so1 dlv; rw [sI_uA, dlF_I hx]
theorem soS_I {x : Nat} (hx : x ≠ 5) : sI (soS s c) x = sI s x := by unfold soS so4; (repeat' split) <;> simp only [sI_uA, so3_I hx]
theorem rcS_I {x : Nat} (hx : x ≠ 5) : sI (rcS s c) x = sI s x := by
  unfold rcS; (repeat' split)
  · exact ssS_I
  · exact smS_I
  · exact soS_I hx
  · exact scS_I
  · rfl
def rcF (s : St) (i : Nat) : St := rcS s (Int32.ofNat i)
theorem Ev_rc {i : Nat} (h : Ev s) : Ev (rcF s i) := h.of (rcS_I (by decide)) (rcS_I (by decide)) (rcS_I (by decide))
def tk1 (s : St) : St := dpS (arS s)
def tk2 (s : St) : St := itF rcF (sI s 0).toInt.toNat 0 (tk1 s)
def tkS (s : St) : St := uI (tk2 s) 3 (sI (tk2 s) 3 + 1)
theorem tk1_I {x : Nat} : sI (tk1 s) x = sI s x := by unfold tk1; rw [dpS_I, arS_I]
theorem tk2_I {x : Nat} (hx : x ≠ 5) : sI (tk2 s) x = sI s x := by
  unfold tk2; rw [itF_inv (I := fun v => sI v x = sI (tk1 s) x) (fun v e g => by unfold rcF; rw [rcS_I hx]; exact g) _ _ _ rfl, tk1_I]
theorem tkS_I {x : Nat} (hx : x ≠ 5 ∧ x ≠ 3) : sI (tkS s) x = sI s x := by unfold tkS; rw [sI_uI, if_neg hx.2, tk2_I hx.1]
theorem Ev_tk (h : Ev s) : Ev (tkS s) := h.of (tkS_I (by decide)) (tkS_I (by decide)) (tkS_I (by decide))
theorem l26 (m : Nat) : ∀ (i : Int32) (s : St), Ev s → i.toInt = (sI s 0).toInt - m → 0 ≤ i.toInt →
    (W (pj lw) 26 10 [.val (.ref p), .val (.int i)] [] k n (ob H p s) Q ↔ Q none (ob H p (uI (itF rcF m i.toNatClampNeg s) 3 (sI (itF rcF m i.toNatClampNeg s) 3 + 1)))) := by
  induction m with
  | zero =>
    intro i s hE hi h0
    have h1 : ¬ i < sI s 0 := by rw [lt32]; omega
    rw [w26_10]; simp +decide only [w26_11, w26_12, w26_15, w26_29, w26_30, w26_31, w26_34, w26_35, w26_36, w26_39, isO_put, isOw_put, okv_int, true_and, and_true, ↓reduceIte, g0, g3, s3, h1, itF]
  | succ m ih =>
    intro i s hE hi h0
    have hb := hE.1
    have h1 : i < sI s 0 := by rw [lt32]; omega
    have h2 : (i + 1).toInt = i.toInt + 1 := ia (by simp only [Int32.reduceToInt]; omega) (by simp only [Int32.reduceToInt]; omega)
    have h3 : 0 ≤ i.toInt ∧ i.toInt < 4 := by omega
    have h4 : (i + 1).toNatClampNeg = i.toNatClampNeg + 1 := by rw [cln, cln]; omega
    have hof := ofn (i := i) (by omega)
    have eI : sI (rcF s i.toNatClampNeg) 0 = sI s 0 := rcS_I (by decide)
    have key := ih (i + 1) (rcF s i.toNatClampNeg) (Ev_rc hE) (by rw [eI]; omega) (by omega)
    rw [h4] at key
    rw [itF, w26_10, ← key]
    unfold rcF; rw [hof]
    simp +decide only [w26_11, w26_12, w26_15, w26_18, w26_19, w26_20, w26_23, w26_26, isO_put, Option.toList_none, List.nil_append, true_and, and_true, ↓reduceIte, g0, h1, t31 hE h3]
theorem t26 (hE : Ev s) : Cl (pj lw) 26 [.ref p] (ob H p s) Q ↔ Q none (ob H p (tkS s)) := by
  have hE1 : Ev (arS s) := hE.of arS_I arS_I arS_I
  have hE2 : Ev (tk1 s) := hE.of tk1_I tk1_I tk1_I
  rw [c26]; simp +decide only [w26_0, w26_1, w26_4, w26_5, w26_8, w26_9, isO_put, Option.toList_none, List.nil_append, true_and, and_true, Nat.reduceAdd, Nat.reduceLeDiff, Int32.reduceAdd, Int64.reduceAdd, t27 hE, t28 hE1]
  rw [show dpS (arS s) = tk1 s from rfl, l26 (sI s 0).toInt.toNat 0 (tk1 s) hE2 (by rw [tk1_I]; simp only [Int32.reduceToInt]; have := hE.1; omega) (by decide)]
  simp only [Int32.reduceToNatClampNeg, tkS, tk2]
def tkF : Nat → St → St
  | 0, s => s
  | m + 1, s => tkF m (tkS s)
def stS (s : St) (a : Int32) : St := tkF (cl 1 32 a).toInt.toNat (uI s 5 0)
theorem l4 {e f : Int32} (q : Nat) : ∀ (i : Int32) (s : St), Ev s → i.toInt = e.toInt - q → 0 ≤ i.toInt → e.toInt ≤ 32 →
    (W (pj lw) 4 16 [.val (.ref p), .val (.int f), .val (.int e), .val (.int i)] [] k n (ob H p s) Q ↔ Q (some (.int (sI (tkF q s) 5))) (ob H p (tkF q s))) := by
  induction q with
  | zero =>
    intro i s hI hi h0 h8
    have h1 : ¬ i < e := by rw [lt32]; omega
    rw [w4_16]; simp +decide only [w4_17, w4_18, w4_31, w4_32, w4_35, isO_put, true_and, ↓reduceIte, g5, h1, tkF]
  | succ q ih =>
    intro i s hI hi h0 h8
    have h1 : i < e := by rw [lt32]; omega
    have h2 : (i + 1).toInt = i.toInt + 1 := ia (by simp only [Int32.reduceToInt]; omega) (by simp only [Int32.reduceToInt]; omega)
    rw [w4_16]; simp +decide only [w4_17, w4_18, w4_21, w4_22, w4_25, w4_28, isO_put, Option.toList_none, List.nil_append, true_and, and_true, ↓reduceIte, h1, t26 hI]
    rw [ih (i + 1) _ (Ev_tk hI) (by omega) (by omega) h8, tkF]
theorem t4 (hE : Ev s) : Cl (pj lw) 4 [.ref p, .int a] (ob H p s) Q ↔ Q (some (.int (sI (stS s a) 5))) (ob H p (stS s a)) := by
  rw [c4]; simp +decide only [w4_0, w4_1, w4_2, w4_3, w4_5, w4_8, w4_9, w4_10, w4_11, w4_14, w4_15, isO_put, isOw_put, Option.toList_some, List.cons_append, List.nil_append, true_and, and_true, s5, t15]
  have hr := cl_rg (lo := 1) (hi := 32) a (by decide)
  simp only [Int32.reduceToInt] at hr
  rw [l4 (cl 1 32 a).toInt.toNat 0 (uI s 5 0) (hE.of (by simp +decide only [sI_uI, ↓reduceIte]) (by simp +decide only [sI_uI, ↓reduceIte]) (by simp +decide only [sI_uI, ↓reduceIte])) (by simp only [Int32.reduceToInt]; omega) (by decide) hr.2]
  rfl
def apR (s : St) (t f g : Int32) : Int32 := if ¬ sI s 4 < 32 then -1 else if (f < 0 ∨ ¬ f < sI s 1) ∨ (g < 0 ∨ ¬ g < sI s 1) ∨ f = g then -2 else if t < sI s 3 then -3 else sI s 4
def apN (s : St) (t f g : Int32) : St := uI (uA (uA (uA (uA (uA (uA (uA s 6 (sI s 4).toNatClampNeg 0) 7 (sI s 4).toNatClampNeg f) 8 (sI s 4).toNatClampNeg g) 9 (sI s 4).toNatClampNeg t) 10 (sI s 4).toNatClampNeg (-1)) 11 (sI s 4).toNatClampNeg (-1)) 12 (sI s 4).toNatClampNeg (-1)) 4 (sI s 4 + 1)
def apS (s : St) (t f g : Int32) : St := if apR s t f g < 0 then s else apN s t f g
theorem t2 (hE : Ev s) : Cl (pj lw) 2 [.ref p, .int a, .int b, .int c] (ob H p s) Q ↔ Q (some (.int (apR s a b c))) (ob H p (apS s a b c)) := by
  have hb := hE.2.2
  rw [c2]; unfold apS apR
  by_cases e0 : sI s 4 < 32
  · have h4 : 0 ≤ (sI s 4).toInt ∧ (sI s 4).toInt < 32 := by rw [lt32] at e0; simp only [Int32.reduceToInt] at e0; omega
    have n4 : ¬ sI s 4 < 0 := by rw [lt32]; simp only [Int32.reduceToInt]; omega
    by_cases e1 : b < 0
    · simp +decide only [w2_0, w2_1, w2_4, w2_6, w2_11, w2_12, w2_40, w2_42, isO_put, true_and, true_or, not_true_eq_false, ↓reduceIte, Int64.reduceLT, Int32.reduceLT, g4, e0, e1]
    by_cases e2 : b < sI s 1
    rotate_left
    · simp +decide only [w2_0, w2_1, w2_4, w2_6, w2_11, w2_12, w2_15, w2_16, w2_17, w2_20, w2_40, w2_42, isO_put, true_and, or_true, true_or, not_true_eq_false, not_false_eq_true, ↓reduceIte, Int64.reduceLT, Int32.reduceLT, g1, g4, e0, e1, e2]
    by_cases e3 : c < 0
    · simp +decide only [w2_0, w2_1, w2_4, w2_6, w2_11, w2_12, w2_15, w2_16, w2_17, w2_20, w2_23, w2_24, w2_40, w2_42, isO_put, true_and, or_false, or_true, true_or, not_true_eq_false, ↓reduceIte, Int64.reduceLT, Int32.reduceLT, g1, g4, e0, e1, e2, e3]
    by_cases e4 : c < sI s 1
    rotate_left
    · simp +decide only [w2_0, w2_1, w2_4, w2_6, w2_11, w2_12, w2_15, w2_16, w2_17, w2_20, w2_23, w2_24, w2_27, w2_28, w2_29, w2_32, w2_40, w2_42, isO_put, true_and, or_false, or_true, true_or, not_true_eq_false, not_false_eq_true, ↓reduceIte, Int64.reduceLT, Int32.reduceLT, g1, g4, e0, e1, e2, e3, e4]
    rcases Classical.propComplete (b = c) with e5 | e5
    · simp +decide only [w2_0, w2_1, w2_4, w2_6, w2_11, w2_12, w2_15, w2_16, w2_17, w2_20, w2_23, w2_24, w2_27, w2_28, w2_29, w2_32, w2_35, w2_36, w2_37, w2_40, w2_42, isO_put, true_and, or_false, or_true, not_true_eq_false, ↓reduceIte, Int64.reduceLT, Int32.reduceLT, g1, g4, e0, e1, e2, e3, e4, e5]
    by_cases e6 : a < sI s 3
    · simp +decide only [w2_0, w2_1, w2_4, w2_6, w2_11, w2_12, w2_15, w2_16, w2_17, w2_20, w2_23, w2_24, w2_27, w2_28, w2_29, w2_32, w2_35, w2_36, w2_37, w2_43, w2_44, w2_45, w2_48, w2_51, w2_53, isO_put, true_and, or_false, not_true_eq_false, ↓reduceIte, Int64.reduceLT, Int32.reduceLT, g1, g3, g4, e0, e1, e2, e3, e4, e5, e6]
    · simp +decide only [w2_0, w2_1, w2_4, w2_6, w2_11, w2_12, w2_15, w2_16, w2_17, w2_20, w2_23, w2_24, w2_27, w2_28, w2_29, w2_32, w2_35, w2_36, w2_37, w2_43, w2_44, w2_45, w2_48, w2_54, w2_55, w2_58, w2_60, w2_61, w2_64, w2_66, w2_67, w2_68, w2_69, w2_72, w2_74, w2_75, w2_76, w2_77, w2_80, w2_82, w2_83, w2_84, w2_85, w2_88, w2_90, w2_91, w2_92, w2_93, w2_96, w2_98, w2_99, w2_100, w2_101, w2_104, w2_106, w2_107, w2_108, w2_109, w2_112, w2_114, w2_115, w2_116, w2_117, w2_119, w2_120, w2_121, w2_124, w2_126, isO_put, isOw_put, okv_int, true_and, and_true, or_false, not_true_eq_false, ↓reduceIte, g1, g3, g4, s4, g11, g12, g13, g14, g15, g16, g17, aw6, as6, aw7, as7, aw8, as8, aw9, as9, aw10, as10, aw11, as11, aw12, as12, e0, e1, e2, e3, e4, e5, e6, h4, n4, apN]
  · simp +decide only [w2_0, w2_1, w2_4, w2_6, w2_9, w2_10, isO_put, true_and, not_false_eq_true, ↓reduceIte, Int64.reduceLT, Int32.reduceLT, g4, e0]
theorem Ev_ap (h : Ev s) : Ev (apS s a b c) := by
  unfold apS; split
  · exact h
  · rename_i g
    have h4 : (sI s 4).toInt < 32 := by
      unfold apR at g
      by_cases e : sI s 4 < 32
      · rw [lt32] at e; exact e
      · rw [if_pos e] at g; exact absurd g (by decide)
    have hb := h.2.2
    refine ⟨?_, ?_, ?_⟩
    · simp +decide only [apN, sI_uI, sI_uA, ↓reduceIte]; exact h.1
    · simp +decide only [apN, sI_uI, sI_uA, ↓reduceIte]; exact h.2.1
    · simp +decide only [apN, sI_uI, ↓reduceIte]; rw [ia (by simp only [Int32.reduceToInt]; omega) (by simp only [Int32.reduceToInt]; omega)]; simp only [Int32.reduceToInt]; omega
end D

section E
variable {lw : LW} {H : AH} {p q j : Nat} {s s' s1 : St} {Q : Option Value → AH → Prop} {a b c d : Int32} {h : Nat → Cel} {k n m : Nat}
def rr (x : Int32) : Int32 := Jvm.Free.XT.ushr x 16 &&& 32767
theorem t5 : Cl (pj lw) 5 [.ref p] (ob H p s) Q ↔ Q (some (.int (sI s 3))) (ob H p s) := by rw [c5]; simp +decide only [w5_0, w5_1, w5_4, isO_put, true_and, g3]
theorem t6 : Cl (pj lw) 6 [.ref p] (ob H p s) Q ↔ Q (some (.int (sI s 4))) (ob H p s) := by rw [c6]; simp +decide only [w6_0, w6_1, w6_4, isO_put, true_and, g4]
def gC (s : St) (c w : Int32) : Int32 := if ¬ c < 0 ∧ c < sI s 0 then (if w = 0 then sA s 1 c.toNatClampNeg else if w = 1 then sA s 2 c.toNatClampNeg else if w = 2 then sA s 3 c.toNatClampNeg else if w = 3 then sA s 4 c.toNatClampNeg else if w = 4 then sA s 5 c.toNatClampNeg else -99) else -99
def gP (s : St) (i w : Int32) : Int32 := if ¬ i < 0 ∧ i < sI s 4 then (if w = 0 then sA s 6 i.toNatClampNeg else if w = 1 then sA s 7 i.toNatClampNeg else if w = 2 then sA s 8 i.toNatClampNeg else if w = 3 then sA s 9 i.toNatClampNeg else if w = 4 then sA s 10 i.toNatClampNeg else if w = 5 then sA s 11 i.toNatClampNeg else if w = 6 then sA s 12 i.toNatClampNeg else -99) else -99
theorem t8 (hE : Ev s) : Cl (pj lw) 8 [.ref p, .int a, .int b] (ob H p s) Q ↔ Q (some (.int (gC s a b))) (ob H p s) := by
  rw [c8]; unfold gC
  by_cases e1 : a < 0
  · simp +decide only [w8_0, w8_1, w8_12, w8_14, false_and, not_true_eq_false, ↓reduceIte, e1]
  by_cases e2 : a < sI s 0
  rotate_left
  · simp +decide only [w8_0, w8_1, w8_4, w8_5, w8_6, w8_9, w8_12, w8_14, isO_put, true_and, and_false, not_false_eq_true, ↓reduceIte, g0, e1, e2]
  have h3 : 0 ≤ a.toInt ∧ a.toInt < 4 := by rw [lt32] at e1 e2; simp only [Int32.reduceToInt] at e1; have := hE.1; omega
  by_cases w0 : b = 0
  · subst w0; simp +decide only [w8_0, w8_1, w8_4, w8_5, w8_6, w8_9, w8_15, w8_16, w8_19, w8_20, w8_23, w8_24, w8_25, isO_put, true_and, and_true, not_false_eq_true, ↓reduceIte, g0, g6, ai1, ae1, e1, e2, h3]
  by_cases w1 : b = 1
  · subst w1; simp +decide only [w8_0, w8_1, w8_4, w8_5, w8_6, w8_9, w8_15, w8_16, w8_26, w8_27, w8_28, w8_31, w8_32, w8_35, w8_36, w8_37, isO_put, true_and, and_true, not_false_eq_true, ↓reduceIte, g0, g7, ai2, ae2, e1, e2, h3]
  by_cases w2 : b = 2
  · subst w2; simp +decide only [w8_0, w8_1, w8_4, w8_5, w8_6, w8_9, w8_15, w8_16, w8_26, w8_27, w8_28, w8_38, w8_39, w8_40, w8_43, w8_44, w8_47, w8_48, w8_49, isO_put, true_and, and_true, not_false_eq_true, ↓reduceIte, g0, g8, ai3, ae3, e1, e2, h3]
  by_cases w3 : b = 3
  · subst w3; simp +decide only [w8_0, w8_1, w8_4, w8_5, w8_6, w8_9, w8_15, w8_16, w8_26, w8_27, w8_28, w8_38, w8_39, w8_40, w8_50, w8_51, w8_52, w8_55, w8_56, w8_59, w8_60, w8_61, isO_put, true_and, and_true, not_false_eq_true, ↓reduceIte, g0, g9, ai4, ae4, e1, e2, h3]
  by_cases w4 : b = 4
  · subst w4; simp +decide only [w8_0, w8_1, w8_4, w8_5, w8_6, w8_9, w8_15, w8_16, w8_26, w8_27, w8_28, w8_38, w8_39, w8_40, w8_50, w8_51, w8_52, w8_62, w8_63, w8_64, w8_67, w8_68, w8_71, w8_72, w8_73, isO_put, true_and, and_true, not_false_eq_true, ↓reduceIte, g0, g10, ai5, ae5, e1, e2, h3]
  · simp +decide only [w8_0, w8_1, w8_4, w8_5, w8_6, w8_9, w8_15, w8_16, w8_26, w8_27, w8_28, w8_38, w8_39, w8_40, w8_50, w8_51, w8_52, w8_62, w8_63, w8_64, w8_74, w8_76, isO_put, true_and, and_true, not_false_eq_true, ↓reduceIte, g0, e1, e2, w0, w1, w2, w3, w4]
theorem t9 (hE : Ev s) : Cl (pj lw) 9 [.ref p, .int a, .int b] (ob H p s) Q ↔ Q (some (.int (gP s a b))) (ob H p s) := by
  rw [c9]; unfold gP
  by_cases e1 : a < 0
  · simp +decide only [w9_0, w9_1, w9_12, w9_14, false_and, not_true_eq_false, ↓reduceIte, e1]
  by_cases e2 : a < sI s 4
  rotate_left
  · simp +decide only [w9_0, w9_1, w9_4, w9_5, w9_6, w9_9, w9_12, w9_14, isO_put, true_and, and_false, not_false_eq_true, ↓reduceIte, g4, e1, e2]
  have h3 : 0 ≤ a.toInt ∧ a.toInt < 32 := by rw [lt32] at e1 e2; simp only [Int32.reduceToInt] at e1; have := hE.2.2; omega
  by_cases w0 : b = 0
  · subst w0; simp +decide only [w9_0, w9_1, w9_4, w9_5, w9_6, w9_9, w9_15, w9_16, w9_19, w9_20, w9_23, w9_24, w9_25, isO_put, true_and, and_true, not_false_eq_true, ↓reduceIte, g4, g11, ai6, ae6, e1, e2, h3]
  by_cases w1 : b = 1
  · subst w1; simp +decide only [w9_0, w9_1, w9_4, w9_5, w9_6, w9_9, w9_15, w9_16, w9_26, w9_27, w9_28, w9_31, w9_32, w9_35, w9_36, w9_37, isO_put, true_and, and_true, not_false_eq_true, ↓reduceIte, g4, g12, ai7, ae7, e1, e2, h3]
  by_cases w2 : b = 2
  · subst w2; simp +decide only [w9_0, w9_1, w9_4, w9_5, w9_6, w9_9, w9_15, w9_16, w9_26, w9_27, w9_28, w9_38, w9_39, w9_40, w9_43, w9_44, w9_47, w9_48, w9_49, isO_put, true_and, and_true, not_false_eq_true, ↓reduceIte, g4, g13, ai8, ae8, e1, e2, h3]
  by_cases w3 : b = 3
  · subst w3; simp +decide only [w9_0, w9_1, w9_4, w9_5, w9_6, w9_9, w9_15, w9_16, w9_26, w9_27, w9_28, w9_38, w9_39, w9_40, w9_50, w9_51, w9_52, w9_55, w9_56, w9_59, w9_60, w9_61, isO_put, true_and, and_true, not_false_eq_true, ↓reduceIte, g4, g14, ai9, ae9, e1, e2, h3]
  by_cases w4 : b = 4
  · subst w4; simp +decide only [w9_0, w9_1, w9_4, w9_5, w9_6, w9_9, w9_15, w9_16, w9_26, w9_27, w9_28, w9_38, w9_39, w9_40, w9_50, w9_51, w9_52, w9_62, w9_63, w9_64, w9_67, w9_68, w9_71, w9_72, w9_73, isO_put, true_and, and_true, not_false_eq_true, ↓reduceIte, g4, g15, ai10, ae10, e1, e2, h3]
  by_cases w5 : b = 5
  · subst w5; simp +decide only [w9_0, w9_1, w9_4, w9_5, w9_6, w9_9, w9_15, w9_16, w9_26, w9_27, w9_28, w9_38, w9_39, w9_40, w9_50, w9_51, w9_52, w9_62, w9_63, w9_64, w9_74, w9_75, w9_76, w9_79, w9_80, w9_83, w9_84, w9_85, isO_put, true_and, and_true, not_false_eq_true, ↓reduceIte, g4, g16, ai11, ae11, e1, e2, h3]
  by_cases w6 : b = 6
  · subst w6; simp +decide only [w9_0, w9_1, w9_4, w9_5, w9_6, w9_9, w9_15, w9_16, w9_26, w9_27, w9_28, w9_38, w9_39, w9_40, w9_50, w9_51, w9_52, w9_62, w9_63, w9_64, w9_74, w9_75, w9_76, w9_86, w9_87, w9_89, w9_92, w9_93, w9_96, w9_97, w9_98, isO_put, true_and, and_true, not_false_eq_true, ↓reduceIte, g4, g17, ai12, ae12, e1, e2, h3]
  · simp +decide only [w9_0, w9_1, w9_4, w9_5, w9_6, w9_9, w9_15, w9_16, w9_26, w9_27, w9_28, w9_38, w9_39, w9_40, w9_50, w9_51, w9_52, w9_62, w9_63, w9_64, w9_74, w9_75, w9_76, w9_86, w9_87, w9_89, w9_99, w9_101, isO_put, true_and, and_true, not_false_eq_true, ↓reduceIte, g4, e1, e2, w0, w1, w2, w3, w4, w5, w6]
theorem l7 (m : Nat) : ∀ (j c : Int32), j.toInt = (sI s 4).toInt - m → 0 ≤ j.toInt → (sI s 4).toInt ≤ 32 → (W (pj lw) 7 4 [.val (.ref p), .val (.int c), .val (.int j)] [] k n (ob H p s) Q ↔ Q (some (.int (c + Int32.ofNat (cnt (fun i => decide (sA s 6 i = 3)) j.toNatClampNeg m)))) (ob H p s)) := by
  induction m with
  | zero =>
    intro j c hj h0 hn
    have h1 : ¬ j < sI s 4 := by rw [lt32]; omega
    rw [w7_4]; simp +decide only [w7_5, w7_6, w7_9, w7_31, w7_32, isO_put, true_and, ↓reduceIte, g4, h1]
    rw [cnt, add_ofNat_zero]
  | succ m ih =>
    intro j c hj h0 hn
    have h1 : j < sI s 4 := by rw [lt32]; omega
    have h2 : (j + 1).toInt = j.toInt + 1 := ia (by simp only [Int32.reduceToInt]; omega) (by simp only [Int32.reduceToInt]; omega)
    have h3 : 0 ≤ j.toInt ∧ j.toInt < 32 := by omega
    have h4 : (j + 1).toNatClampNeg = j.toNatClampNeg + 1 := by rw [cln, cln]; omega
    rw [w7_4]
    rcases Classical.propComplete (sA s 6 j.toNatClampNeg = 3) with h5 | h5
    · simp +decide only [w7_5, w7_6, w7_9, w7_12, w7_13, w7_16, w7_17, w7_18, w7_19, w7_22, w7_25, w7_28, isO_put, true_and, and_true, ↓reduceIte, g4, g11, ai6, ae6, h1, h3, h5]
      rw [ih (j + 1) (c + 1) (by omega) (by omega) hn, h4, cnt, ofNat_one_add]
      simp [h5]
    · simp +decide only [w7_5, w7_6, w7_9, w7_12, w7_13, w7_16, w7_17, w7_18, w7_19, w7_25, w7_28, isO_put, true_and, and_true, ↓reduceIte, g4, g11, ai6, ae6, h1, h3, h5]
      rw [ih (j + 1) c (by omega) (by omega) hn, h4, cnt]
      simp [h5]
theorem t7 (hE : Ev s) : Cl (pj lw) 7 [.ref p] (ob H p s) Q ↔ Q (some (.int (Int32.ofNat (cnt (fun i => decide (sA s 6 i = 3)) 0 (pc s))))) (ob H p s) := by
  rw [c7]; simp +decide only [w7_0, w7_1, w7_2, w7_3]
  rw [l7 (pc s) 0 0 (by unfold pc; simp only [Int32.reduceToInt]; have := hE.2.2; omega) (by decide) hE.2.2.2, Int32.zero_add]; rfl
def suF (f : Nat → Bool) (g : Nat → Int32) : Nat → Nat → Int32 → Int32
  | 0, _, c => c
  | m + 1, i, c => if f i = true then suF f g m (i + 1) (c + g i) else suF f g m (i + 1) c
def wS (s : St) : Int32 := suF (fun i => !decide (sA s 10 i = -1)) (fun i => sA s 10 i - sA s 9 i) (pc s) 0 0
def jS (s : St) : Int32 := suF (fun i => decide (sA s 6 i = 3)) (fun i => sA s 11 i - sA s 9 i) (pc s) 0 0
theorem l12 (m : Nat) : ∀ (j c : Int32), j.toInt = (sI s 4).toInt - m → 0 ≤ j.toInt → (sI s 4).toInt ≤ 32 → (W (pj lw) 12 4 [.val (.ref p), .val (.int c), .val (.int j)] [] k n (ob H p s) Q ↔ Q (some (.int (suF (fun i => !decide (sA s 10 i = -1)) (fun i => sA s 10 i - sA s 9 i) m j.toNatClampNeg c))) (ob H p s)) := by
  induction m with
  | zero =>
    intro j c hj h0 hn
    have h1 : ¬ j < sI s 4 := by rw [lt32]; omega
    rw [w12_4]; simp +decide only [w12_5, w12_6, w12_9, w12_44, w12_45, isO_put, true_and, ↓reduceIte, g4, h1, suF]
  | succ m ih =>
    intro j c hj h0 hn
    have h1 : j < sI s 4 := by rw [lt32]; omega
    have h2 : (j + 1).toInt = j.toInt + 1 := ia (by simp only [Int32.reduceToInt]; omega) (by simp only [Int32.reduceToInt]; omega)
    have h3 : 0 ≤ j.toInt ∧ j.toInt < 32 := by omega
    have h4 : (j + 1).toNatClampNeg = j.toNatClampNeg + 1 := by rw [cln, cln]; omega
    have key := fun c => ih (j + 1) c (by omega) (by omega) hn
    rw [h4] at key
    rw [w12_4, suF]
    rcases Classical.propComplete (sA s 10 j.toNatClampNeg = -1) with h5 | h5 <;>
    simp +decide only [w12_5, w12_6, w12_9, w12_12, w12_13, w12_16, w12_17, w12_18, w12_19, w12_22, w12_23, w12_24, w12_27, w12_28, w12_29, w12_30, w12_33, w12_34, w12_35, w12_36, w12_37i, w12_38, w12_41, isO_put, true_and, and_true, ↓reduceIte, g4, g14, g15, ai9, ae9, ai10, ae10, h1, h3, h5, key, decide_true, decide_false, Bool.not_true, Bool.not_false, Bool.false_eq_true]
theorem t12 (hE : Ev s) : Cl (pj lw) 12 [.ref p] (ob H p s) Q ↔ Q (some (.int (wS s))) (ob H p s) := by
  rw [c12]; simp +decide only [w12_0, w12_1, w12_2, w12_3]
  rw [l12 (pc s) 0 0 (by unfold pc; simp only [Int32.reduceToInt]; have := hE.2.2; omega) (by decide) hE.2.2.2]; rfl
theorem l13 (m : Nat) : ∀ (j c : Int32), j.toInt = (sI s 4).toInt - m → 0 ≤ j.toInt → (sI s 4).toInt ≤ 32 → (W (pj lw) 13 4 [.val (.ref p), .val (.int c), .val (.int j)] [] k n (ob H p s) Q ↔ Q (some (.int (suF (fun i => decide (sA s 6 i = 3)) (fun i => sA s 11 i - sA s 9 i) m j.toNatClampNeg c))) (ob H p s)) := by
  induction m with
  | zero =>
    intro j c hj h0 hn
    have h1 : ¬ j < sI s 4 := by rw [lt32]; omega
    rw [w13_4]; simp +decide only [w13_5, w13_6, w13_9, w13_44, w13_45, isO_put, true_and, ↓reduceIte, g4, h1, suF]
  | succ m ih =>
    intro j c hj h0 hn
    have h1 : j < sI s 4 := by rw [lt32]; omega
    have h2 : (j + 1).toInt = j.toInt + 1 := ia (by simp only [Int32.reduceToInt]; omega) (by simp only [Int32.reduceToInt]; omega)
    have h3 : 0 ≤ j.toInt ∧ j.toInt < 32 := by omega
    have h4 : (j + 1).toNatClampNeg = j.toNatClampNeg + 1 := by rw [cln, cln]; omega
    have key := fun c => ih (j + 1) c (by omega) (by omega) hn
    rw [h4] at key
    rw [w13_4, suF]
    rcases Classical.propComplete (sA s 6 j.toNatClampNeg = 3) with h5 | h5 <;>
    simp +decide only [w13_5, w13_6, w13_9, w13_12, w13_13, w13_16, w13_17, w13_18, w13_19, w13_22, w13_23, w13_24, w13_27, w13_28, w13_29, w13_30, w13_33, w13_34, w13_35, w13_36, w13_37i, w13_38, w13_41, isO_put, true_and, and_true, ↓reduceIte, g4, g11, g14, g16, ai6, ae6, ai9, ae9, ai11, ae11, h1, h3, h5, key, decide_true, decide_false, Bool.false_eq_true]
theorem t13 (hE : Ev s) : Cl (pj lw) 13 [.ref p] (ob H p s) Q ↔ Q (some (.int (jS s))) (ob H p s) := by
  rw [c13]; simp +decide only [w13_0, w13_1, w13_2, w13_3]
  rw [l13 (pc s) 0 0 (by unfold pc; simp only [Int32.reduceToInt]; have := hE.2.2; omega) (by decide) hE.2.2.2]; rfl
def bkt (v : Int32) : Int32 := if v < 28 then v / 4 else 7
theorem t16 : Cl (pj lw) 16 [.ref p, .int a] H Q ↔ Q (some (.int (bkt a))) H := by
  rw [c16]; unfold bkt
  by_cases e : a < 28 <;> simp +decide only [w16_0, w16_1, w16_3, w16_6, w16_7, w16_8, w16_9, w16_10, w16_12, true_and, ↓reduceIte, e]
def hiF (s : St) (a b : Int32) (i : Nat) : Bool := if a = 0 then decide (¬ sA s 10 i = -1 ∧ bkt (sA s 10 i - sA s 9 i) = b) else decide (sA s 6 i = 3 ∧ bkt (sA s 11 i - sA s 9 i) = b)
def his (s : St) (a b : Int32) : Int32 := if (a = 0 ∨ a = 1) ∧ ¬ b < 0 ∧ ¬ 7 < b then Int32.ofNat (cnt (hiF s a b) 0 (pc s)) else -99
theorem l14 (m : Nat) : ∀ (j c : Int32), j.toInt = (sI s 4).toInt - m → 0 ≤ j.toInt → (sI s 4).toInt ≤ 32 → ∀ l5 l6 : Slot, ((l5 = .unset ∧ l6 = .unset) ∨ ∃ u v, l5 = .val (.int u) ∧ l6 = .val (.int v)) → (W (pj lw) 14 27 [.val (.ref p), .val (.int a), .val (.int b), .val (.int c), .val (.int j), l5, l6] [] k n (ob H p s) Q ↔ Q (some (.int (c + Int32.ofNat (cnt (hiF s a b) j.toNatClampNeg m)))) (ob H p s)) := by
  induction m with
  | zero =>
    intro j c hj h0 hn l5 l6 hl
    have h1 : ¬ j < sI s 4 := by rw [lt32]; omega
    rw [w14_27]; simp +decide only [w14_29, w14_30, w14_33, w14_137, w14_138, isO_put, true_and, ↓reduceIte, g4, h1]
    rw [cnt, add_ofNat_zero]
  | succ m ih =>
    intro j c hj h0 hn l5 l6 hl
    have h1 : j < sI s 4 := by rw [lt32]; omega
    have h2 : (j + 1).toInt = j.toInt + 1 := ia (by simp only [Int32.reduceToInt]; omega) (by simp only [Int32.reduceToInt]; omega)
    have h3 : 0 ≤ j.toInt ∧ j.toInt < 32 := by omega
    have h4 : (j + 1).toNatClampNeg = j.toNatClampNeg + 1 := by rw [cln, cln]; omega
    have key := fun c u v => ih (j + 1) c (by omega) (by omega) hn (.val (.int u)) (.val (.int v)) (Or.inr ⟨u, v, rfl, rfl⟩)
    rw [h4] at key
    rw [w14_27, cnt]
    unfold hiF at key ⊢
    rcases Classical.propComplete (a = 0) with e0 | e0
    · rcases Classical.propComplete (sA s 10 j.toNatClampNeg = -1) with h5 | h5 <;> rcases Classical.propComplete (bkt (sA s 10 j.toNatClampNeg - sA s 9 j.toNatClampNeg) = b) with h6 | h6 <;> rcases hl with ⟨rfl, rfl⟩ | ⟨u, v, rfl, rfl⟩ <;>
      simp +decide only [w14_29, w14_30, w14_33, w14_36, w14_37, w14_40, w14_41, w14_44, w14_46, w14_47, w14_48, w14_51, w14_52, w14_55, w14_56i, w14_56, w14_58, w14_59, w14_62, w14_64, w14_65, w14_66, w14_69, w14_71, w14_72, w14_73i, w14_73, w14_75, w14_113, w14_115, w14_118, w14_119, w14_121, w14_124, w14_125, w14_128, w14_131, w14_134, isO_put, Option.toList_some, List.cons_append, List.nil_append, true_and, and_true, and_false, not_true_eq_false, not_false_eq_true, ↓reduceIte, Nat.zero_add, implies_true, g4, g14, g15, ai9, ae9, ai10, ae10, h1, h3, e0, h5, h6, t16, key, decide_true, decide_false, and_self, ofNat_one_add, Bool.false_eq_true] at key ⊢
    · rcases Classical.propComplete (sA s 6 j.toNatClampNeg = 3) with h5 | h5 <;> rcases Classical.propComplete (bkt (sA s 11 j.toNatClampNeg - sA s 9 j.toNatClampNeg) = b) with h6 | h6 <;> rcases hl with ⟨rfl, rfl⟩ | ⟨u, v, rfl, rfl⟩ <;>
      simp +decide only [w14_29, w14_30, w14_33, w14_36, w14_37, w14_78, w14_79, w14_82, w14_84, w14_85, w14_86, w14_89, w14_90, w14_93, w14_94i, w14_94, w14_96, w14_97, w14_100, w14_102, w14_103, w14_104, w14_107, w14_109, w14_110, w14_111i, w14_111, w14_113, w14_115, w14_118, w14_119, w14_121, w14_124, w14_125, w14_128, w14_131, w14_134, isO_put, Option.toList_some, List.cons_append, List.nil_append, true_and, and_true, and_false, ↓reduceIte, Nat.zero_add, implies_true, g4, g11, g14, g16, ai6, ae6, ai9, ae9, ai11, ae11, h1, h3, e0, h5, h6, t16, key, decide_true, decide_false, and_self, ofNat_one_add, Bool.false_eq_true] at key ⊢
end E

section F
variable {lw : LW} {H : AH} {p q j : Nat} {s s' s1 : St} {Q : Option Value → AH → Prop} {a b c d : Int32} {h : Nat → Cel} {k n m : Nat} {ar len cc : Nat} {f : Nat → Int32}
theorem t14 (hE : Ev s) : Cl (pj lw) 14 [.ref p, .int a, .int b] (ob H p s) Q ↔ Q (some (.int (his s a b))) (ob H p s) := by
  have hl := fun (Q : Option Value → AH → Prop) => l14 (lw := lw) (H := H) (p := p) (s := s) (Q := Q) (a := a) (b := b) (k := 0) (n := 0) (pc s) 0 0 (by unfold pc; simp only [Int32.reduceToInt]; have := hE.2.2; omega) (by decide) hE.2.2.2 .unset .unset (Or.inl ⟨rfl, rfl⟩)
  simp only [Int32.zero_add, Int32.reduceToNatClampNeg] at hl
  rw [c14]; unfold his
  by_cases e0 : a = 0 <;> by_cases e1 : a = 1 <;> by_cases e2 : b < 0 <;> by_cases e3 : 7 < b
  all_goals first
    | (rw [e0] at e1; exact absurd e1 (by decide))
    | (simp +decide only [w14_0, w14_1, w14_4, w14_5, w14_6, w14_9, w14_10, w14_13, w14_14, w14_16, w14_19, w14_21, and_true, and_false, or_false, or_true, not_true_eq_false, not_false_eq_true, ↓reduceIte, e0, e1, e2, e3]; done)
    | (subst e0; simp +decide only [w14_0, w14_1, w14_9, w14_10, w14_13, w14_14, w14_16, w14_22, w14_23, w14_24, w14_25, and_true, not_false_eq_true, ↓reduceIte, e2, e3, hl]; done)
    | (subst e1; simp +decide only [w14_0, w14_1, w14_4, w14_5, w14_6, w14_9, w14_10, w14_13, w14_14, w14_16, w14_22, w14_23, w14_24, w14_25, and_true, not_false_eq_true, ↓reduceIte, e2, e3, hl]; done)
def hcl (s : St) (f x : Int32) : Int32 := if (¬ f < 0 ∧ f < sI s 1) ∧ (x = 1 ∨ x = -1) then (if wd s f x = true then sA s 13 (slI f x).toNatClampNeg else -1) else -99
theorem Ev_ini : Ev (ini0 a b c) := by
  have h1 := cl_rg (lo := 1) (hi := 4) a (by decide)
  have h2 := cl_rg (lo := 2) (hi := 16) b (by decide)
  simp only [Int32.reduceToInt] at h1 h2
  refine ⟨?_, ?_, ?_⟩
  · simp +decide only [ini0, sI_uI, sI_fA, ↓reduceIte]; exact h1
  · simp +decide only [ini0, sI_uI, sI_fA, ↓reduceIte]; exact h2
  · simp +decide only [ini0, sI_uI, sI_fA, sI_z0, and_true, ↓reduceIte, Int32.reduceToInt]
section P5
variable {v : Int32} {t i : Nat} {w x y z : Int32}
theorem I_5 (hx : k ≠ 5) : sI (uI s 5 v) k = sI s k := by rw [sI_uI, if_neg hx]
theorem pc_5 : pc (uI s 5 v) = pc s := by unfold pc; rw [I_5 (by decide)]
end P5
end F

section G5
variable {s : St} {v x y z : Int32}
theorem Ev5 (h : Ev s) : Ev (uI s 5 v) := h.of (I_5 (by decide)) (I_5 (by decide)) (I_5 (by decide))
def dlN (s : St) : Nat := cnt (fun i => decide (sA s 6 i = 3)) 0 (pc s)
theorem dlN5 : dlN (uI s 5 v) = dlN s := by unfold dlN; simp only [sA_uI]; rw [pc_5]
end G5

section Hh
variable {s s' : St} {a b c d x y z : Int32} {i : Nat}
theorem cnt_set {f g : Nat → Bool} {x : Nat} : ∀ (k j : Nat), j ≤ x → x < j + k → f x = false → g x = true → (∀ i, i ≠ x → g i = f i) → cnt g j k = cnt f j k + 1
  | 0, j, h1, h2, _, _, _ => by omega
  | k + 1, j, h1, h2, hf, hg, h => by
    simp only [cnt]
    by_cases e : j = x
    · subst e
      rw [hf, hg, cnt_congr k (j + 1) fun i a _ => h i (by omega)]; simp; omega
    · rw [h j e, cnt_set k (j + 1) (by omega) (by omega) hf hg h]; omega
def ldn (s : St) (c : Nat) : Nat := cnt (fun i => decide (sA s 6 i = 2 ∧ sA s 12 i = Int32.ofNat c)) 0 (pc s)
def IL (s : St) : Prop := (1 ≤ (sI s 2).toInt ∧ (sI s 2).toInt ≤ 8) ∧ ∀ c, c < 4 → (sA s 4 c).toInt = ldn s c ∧ (sA s 4 c).toInt ≤ (sI s 2).toInt
theorem IL.of (h : IL s) (h2 : sI s' 2 = sI s 2) (h4 : sI s' 4 = sI s 4) (a4 : ∀ i, sA s' 4 i = sA s 4 i) (a6 : ∀ i, (sA s' 6 i = 2) = (sA s 6 i = 2)) (a12 : ∀ i, sA s' 12 i = sA s 12 i) : IL s' := by
  have e : ∀ c, ldn s' c = ldn s c := fun c => by unfold ldn pc; rw [h4]; simp only [a6, a12]
  unfold IL; rw [h2]; exact ⟨h.1, fun c hc => by rw [a4, e]; exact h.2 c hc⟩
end Hh

section Ii
variable {s s' : St} {a b c d x y z : Int32} {i : Nat} {I : St → Prop}
def Stp (I : St → Prop) : Prop := (∀ s t i v, (t = 1 ∨ t = 2 ∨ t = 3 ∨ t = 5 ∨ t = 13) → I s → I (uA s t i v)) ∧ (∀ s i, Ev s → i < pc s → sA s 6 i = 0 → sA s 9 i = sI s 3 → I s → I (uA s 6 i 1)) ∧ (∀ s c f i, Ev s → (0 ≤ c.toInt ∧ c.toInt < (sI s 0).toInt) → i < pc s → rdF s c f i = true → I s → I (dl1 s c i)) ∧ (∀ s c d f i, Ev s → (0 ≤ c.toInt ∧ c.toInt < (sI s 0).toInt) → i < pc s → wdF s f d i = true → rmm s c = true → I s → I (bd1 s c i))
theorem Stp.plain {I : St → Prop} (h : Stp I) : ∀ s t i v, (t = 1 ∨ t = 2 ∨ t = 3 ∨ t = 5 ∨ t = 13) → I s → I (uA s t i v) := h.1
theorem Stp.arr {I : St → Prop} (h : Stp I) : ∀ s i, Ev s → i < pc s → sA s 6 i = 0 → sA s 9 i = sI s 3 → I s → I (uA s 6 i 1) := h.2.1
theorem Stp.del {I : St → Prop} (h : Stp I) : ∀ s c f i, Ev s → (0 ≤ c.toInt ∧ c.toInt < (sI s 0).toInt) → i < pc s → rdF s c f i = true → I s → I (dl1 s c i) := h.2.2.1
theorem Stp.brd {I : St → Prop} (h : Stp I) : ∀ s c d f i, Ev s → (0 ≤ c.toInt ∧ c.toInt < (sI s 0).toInt) → i < pc s → wdF s f d i = true → rmm s c = true → I s → I (bd1 s c i) := h.2.2.2
theorem Stp.dlF (h : Stp I) {f : Int32} : ∀ (m i : Nat) (y : Int32) (s : St), Ev s → (0 ≤ c.toInt ∧ c.toInt < (sI s 0).toInt) → i + m ≤ pc s → I s → I (dlF c f m i y s).2
  | 0, _, _, _, _, _, _, g => g
  | m + 1, i, y, s, hE, hc, hi, g => by
    rw [Pj.dlF]; split
    · rename_i r
      exact Stp.dlF h m (i + 1) 1 _ (hE.of (dl1_I (by decide)) (dl1_I (by decide)) (dl1_I (by decide))) (by rw [dl1_I (by decide)]; exact hc) (by unfold pc; rw [dl1_I (by decide)]; unfold pc at hi; omega) (h.del s c f i hE hc (by omega) r g)
    · exact Stp.dlF h m (i + 1) y s hE hc (by omega) g
theorem Stp.bdF (h : Stp I) {f : Int32} : ∀ (m i : Nat) (y : Int32) (s : St), Ev s → (0 ≤ c.toInt ∧ c.toInt < (sI s 0).toInt) → i + m ≤ pc s → I s → I (bdF c d f m i y s).2
  | 0, _, _, _, _, _, _, g => g
  | m + 1, i, y, s, hE, hc, hi, g => by
    rw [Pj.bdF]; split
    · rename_i rm
      split
      · rename_i r
        exact Stp.bdF h m (i + 1) 1 _ (hE.of bd1_I bd1_I bd1_I) (by rw [bd1_I]; exact hc) (by unfold pc; rw [bd1_I]; unfold pc at hi; omega) (h.brd s c d f i hE hc (by omega) r rm g)
      · exact Stp.bdF h m (i + 1) y s hE hc (by omega) g
    · exact g
theorem Stp.rc (h : Stp I) (hE : Ev s) (hc : 0 ≤ c.toInt ∧ c.toInt < (sI s 0).toInt) (g : I s) : I (rcS s c) := by
  have P := fun (s : St) (t i : Nat) (v : Int32) (ht : t = 1 ∨ t = 2 ∨ t = 3 ∨ t = 5 ∨ t = 13) (g : I s) => h.plain s t i v ht g
  unfold rcS; (repeat' split)
  · have h1 : I (ss1 s c) := P _ _ _ _ (by decide) g
    unfold ssS; (repeat' split)
    · exact h1
    · exact P _ _ _ _ (by decide) (P _ _ _ _ (by decide) h1)
    · exact P _ _ _ _ (by decide) (P _ _ _ _ (by decide) h1)
    · exact h1
  · have h1 : I (sm1 s c) := P _ _ _ _ (by decide) g
    have h2 : I (sm2 s c) := P _ _ _ _ (by decide) h1
    unfold smS; (repeat' split)
    · exact h1
    · exact P _ _ _ _ (by decide) (P _ _ _ _ (by decide) h2)
    · exact P _ _ _ _ (by decide) h2
    · exact P _ _ _ _ (by decide) (P _ _ _ _ (by decide) h2)
  · have e1 : ∀ x, x ≠ 5 → sI (so1 s c) x = sI s x := fun x hx => dlF_I hx _ _ _ _
    have h1 : I (so1 s c) := h.dlF _ _ _ _ hE hc (by omega) g
    have E1 : Ev (so1 s c) := hE.of (e1 0 (by decide)) (e1 1 (by decide)) (e1 4 (by decide))
    have h2 : I (so2 s c) := P _ _ _ _ (by decide) h1
    have h3 : I (so3 s c) := by
      unfold so3; split
      · exact h2
      · exact h.bdF _ _ _ _ (Ev_A E1) (by unfold so2; rw [sI_uA, e1 0 (by decide)]; exact hc) (by omega) h2
    have h4 : I (so4 (so3 s c) c) := P _ _ _ _ (by decide) h3
    unfold soS; (repeat' split)
    · exact P _ _ _ _ (by decide) h3
    · exact P _ _ _ _ (by decide) h4
    · exact h4
  · have h1 : I (ss1 s c) := P _ _ _ _ (by decide) g
    unfold scS; split
    · exact P _ _ _ _ (by decide) (P _ _ _ _ (by decide) h1)
    · exact P _ _ _ _ (by decide) (P _ _ _ _ (by decide) h1)
  · exact g
theorem Stp.tk2 (h : Stp I) (hE : Ev s) (g : I s) : I (tk2 s) := by
  have h1 : I (arS s) := (itF_ind (I := fun v => (Ev v ∧ sI v 4 = sI s 4) ∧ I v) _ _ _ (fun v k _ hk g => by
    refine ⟨⟨g.1.1.of arF_I arF_I arF_I, by rw [arF_I]; exact g.1.2⟩, ?_⟩
    unfold arF; split
    · rename_i r
      exact h.arr v k g.1.1 (by unfold pc at *; rw [g.1.2]; omega) r.1 r.2 g.2
    · exact g.2) ⟨⟨hE, rfl⟩, g⟩).2
  have h2 : I (tk1 s) := by
    unfold tk1 dpS
    refine itF_inv (I := I) (fun v e g => ?_) _ _ _ h1
    have P := fun (v : St) (f x : Int32) (g : I v) => (show I (asS v f x) by unfold asS; split <;> exact h.plain _ _ _ _ (by decide) g)
    exact P _ _ _ (P _ _ _ g)
  unfold Pj.tk2
  refine (itF_ind (I := fun v => (Ev v ∧ sI v 0 = sI s 0) ∧ I v) _ _ _ (fun v k _ hk g => ?_) ⟨⟨hE.of tk1_I tk1_I tk1_I, tk1_I⟩, h2⟩).2
  have e0 : (Int32.ofNat k).toInt = k := Int32.toInt_ofNat_of_lt (by have := hE.1; omega)
  exact ⟨⟨Ev_rc g.1.1, (rcS_I (by decide)).trans g.1.2⟩, h.rc g.1.1 (by rw [e0, g.1.2]; have := hE.1; omega) g.2⟩
def PS8 (s : St) (i : Nat) : Prop := (sA s 6 i = 0 ∨ sA s 6 i = 1 ∨ sA s 6 i = 2 ∨ sA s 6 i = 3) ∧ (0 ≤ (sA s 7 i).toInt ∧ (sA s 7 i).toInt < (sI s 1).toInt) ∧ ((sA s 6 i = 3 ∧ ¬ sA s 11 i = -1) ∨ (¬ sA s 6 i = 3 ∧ sA s 11 i = -1)) ∧ (sA s 6 i = 2 → 0 ≤ (sA s 12 i).toInt ∧ (sA s 12 i).toInt < (sI s 0).toInt)
def PSA (s : St) : Prop := (0 ≤ (sI s 3).toInt) ∧ ∀ i, i < pc s → PS8 s i
theorem PSA_stp : Stp PSA := by
  refine ⟨fun s t i v ht h => ?_, fun s i hE hi h0 h9 h => ?_, fun s c f i hE hc hi hr h => ?_, fun s c d f i hE hc hi hr hm h => ?_⟩
  · have e : ∀ t', t' ≠ 1 ∧ t' ≠ 2 ∧ t' ≠ 3 ∧ t' ≠ 5 ∧ t' ≠ 13 → ∀ j, sA (uA s t i v) t' j = sA s t' j := fun t' h' j => by
      rw [sA_uA, if_neg (fun g => by rcases ht with z | z | z | z | z <;> (rw [z] at g; simp_all))]
    refine ⟨by rw [sI_uA]; exact h.1, fun j hj => ?_⟩
    unfold PS8; rw [e 6 (by decide), e 7 (by decide), e 11 (by decide), e 12 (by decide), sI_uA, sI_uA]
    exact h.2 j (by unfold pc at *; rw [sI_uA] at hj; exact hj)
  · refine ⟨by rw [sI_uA]; exact h.1, fun j hj => ?_⟩
    have hj' : j < pc s := by unfold pc at *; rw [sI_uA] at hj; exact hj
    obtain ⟨q1, q2, q3, q4⟩ := h.2 j hj'
    unfold PS8; simp +decide only [sA_uA, sI_uA, true_and, false_and, ↓reduceIte]
    by_cases g : j = i
    · subst g; rw [h0] at q3
      simp +decide only [↓reduceIte, q2, true_and]
      rcases q3 with q | q
      · exact absurd q.1 (by decide)
      · simp +decide [q.2]
    · simp only [g, if_false]; exact ⟨q1, q2, q3, q4⟩
  · obtain ⟨r1, r2, r3⟩ := of_decide_eq_true hr
    have k6 : ∀ j, sA (dl1 s c i) 6 j = if j = i then 3 else sA s 6 j := fun j => by simp +decide only [dl1, sA_uI, sA_uA, true_and, false_and, ↓reduceIte]
    have k11 : ∀ j, sA (dl1 s c i) 11 j = if j = i then sI s 3 else sA s 11 j := fun j => by simp +decide only [dl1, sA_uI, sA_uA, true_and, false_and, ↓reduceIte]
    refine ⟨by rw [dl1_I (by decide)]; exact h.1, fun j hj => ?_⟩
    have hj' : j < pc s := by unfold pc at *; rw [dl1_I (by decide)] at hj; exact hj
    obtain ⟨q1, q2, q3, q4⟩ := h.2 j hj'
    unfold PS8; rw [k6, k11, dl1_A (by decide), dl1_A (by decide), dl1_I (by decide), dl1_I (by decide)]
    by_cases g : j = i
    · simp +decide only [g, ↓reduceIte, true_and]
      subst g
      refine ⟨q2, Or.inl (fun e => ?_), fun e => absurd e (by decide)⟩
      have := h.1; rw [e] at this; exact absurd this (by decide)
    · simp only [g, if_false]; exact ⟨q1, q2, q3, q4⟩
  · obtain ⟨r1, r2, r3⟩ := of_decide_eq_true hr
    have k6 : ∀ j, sA (bd1 s c i) 6 j = if j = i then 2 else sA s 6 j := fun j => by simp +decide only [bd1, sA_uA, true_and, false_and, ↓reduceIte]
    have k12 : ∀ j, sA (bd1 s c i) 12 j = if j = i then c else sA s 12 j := fun j => by simp +decide only [bd1, sA_uA, true_and, false_and, ↓reduceIte]
    refine ⟨by rw [bd1_I]; exact h.1, fun j hj => ?_⟩
    have hj' : j < pc s := by unfold pc at *; rw [bd1_I] at hj; exact hj
    obtain ⟨q1, q2, q3, q4⟩ := h.2 j hj'
    unfold PS8; rw [k6, k12, bd1_A (by decide), bd1_A (by decide), bd1_I, bd1_I]
    by_cases g : j = i
    · subst g; rw [r1] at q3
      simp +decide only [↓reduceIte, true_and]
      rcases q3 with q | q
      · exact absurd q.1 (by decide)
      · exact ⟨q2, Or.inr q.2, fun _ => hc⟩
    · simp only [g, if_false]; exact ⟨q1, q2, q3, q4⟩
def QD (D : Nat) (s : St) : Prop := (sI s 5).toInt = (dlN s : Int) - D ∧ D ≤ dlN s
theorem dlN_le (hE : Ev s) : dlN s ≤ 32 := by
  have := cnt_le (f := fun i => decide (sA s 6 i = 3)) (pc s) 0
  have h2 := hE.2.2; unfold dlN; unfold pc at *; omega
theorem QD_stp {D : Nat} : Stp (QD D) := by
  refine ⟨fun s t i v ht h => ?_, fun s i hE hi h0 h9 h => ?_, fun s c f i hE hc hi hr h => ?_, fun s c d f i hE hc hi hr hm h => ?_⟩
  · have e6 : ∀ j, sA (uA s t i v) 6 j = sA s 6 j := fun j => by
      rw [sA_uA, if_neg (fun g => by rcases ht with z | z | z | z | z <;> (rw [z] at g; simp_all))]
    have e : dlN (uA s t i v) = dlN s := by unfold dlN pc; rw [sI_uA]; simp only [e6]
    unfold QD; rw [e, sI_uA]; exact h
  · have e : dlN (uA s 6 i 1) = dlN s := by
      unfold dlN pc; rw [sI_uA]
      refine cnt_congr _ _ fun j _ _ => ?_
      simp only [sA_uA, true_and]
      by_cases g : j = i
      · subst g; rw [if_pos rfl, h0]; decide
      · rw [if_neg g]
    unfold QD; rw [e, sI_uA]; exact h
  · obtain ⟨r1, r2, r3⟩ := of_decide_eq_true hr
    have k6 : ∀ j, sA (dl1 s c i) 6 j = if j = i then 3 else sA s 6 j := fun j => by simp +decide only [dl1, sA_uI, sA_uA, true_and, false_and, ↓reduceIte]
    have e : dlN (dl1 s c i) = dlN s + 1 := by
      unfold dlN; rw [show pc (dl1 s c i) = pc s by unfold pc; rw [dl1_I (by decide)]]
      refine cnt_set (x := i) _ _ (by omega) (by omega) ?_ ?_ (fun j hj => ?_)
      · rw [r1]; decide
      · rw [k6, if_pos rfl]; decide
      · rw [k6, if_neg hj]
    have e5 : sI (dl1 s c i) 5 = sI s 5 + 1 := by simp +decide only [dl1, sI_uI, ↓reduceIte]
    have hl := dlN_le hE
    unfold QD at *; rw [e, e5, ia (by simp only [Int32.reduceToInt]; omega) (by simp only [Int32.reduceToInt]; omega)]
    simp only [Int32.reduceToInt]; omega
  · obtain ⟨r1, r2, r3⟩ := of_decide_eq_true hr
    have k6 : ∀ j, sA (bd1 s c i) 6 j = if j = i then 2 else sA s 6 j := fun j => by simp +decide only [bd1, sA_uA, true_and, false_and, ↓reduceIte]
    have e : dlN (bd1 s c i) = dlN s := by
      unfold dlN; rw [show pc (bd1 s c i) = pc s by unfold pc; rw [bd1_I]]
      refine cnt_congr _ _ fun j _ _ => ?_
      rw [k6]
      by_cases g : j = i
      · subst g; rw [if_pos rfl, r1]; decide
      · rw [if_neg g]
    unfold QD; rw [e, bd1_I]; exact h
theorem tkS_3 (hE : Ev s) : sI (tkS s) 3 = sI s 3 + 1 := by unfold tkS; rw [sI_uI, if_pos rfl, tk2_I (by decide)]
theorem tk_A {t : Nat} : sA (tkS s) t i = sA (tk2 s) t i := by unfold tkS; rw [sA_uI]
theorem PSA_tk (hE : Ev s) (h : PSA s) (hn : (sI s 3).toInt ≤ 1000000) : PSA (tkS s) := by
  have g := PSA_stp.tk2 hE h
  have e3 := tkS_3 hE
  refine ⟨by rw [e3, ia (by simp only [Int32.reduceToInt]; have := h.1; omega) (by simp only [Int32.reduceToInt]; omega)]; simp only [Int32.reduceToInt]; have := h.1; omega, fun j hj => ?_⟩
  have hj' : j < pc (tk2 s) := by unfold pc at *; rw [tkS_I (by decide)] at hj; rw [tk2_I (by decide)]; exact hj
  have := g.2 j hj'
  unfold PS8 at *; rw [tk_A, tk_A, tk_A, tk_A, tkS_I (by decide), tkS_I (by decide)]; rw [tk2_I (by decide), tk2_I (by decide)] at this; exact this
theorem QD_tk {D : Nat} (hE : Ev s) (h : QD D s) : QD D (tkS s) := by
  have g := QD_stp.tk2 hE h
  have e : dlN (tkS s) = dlN (tk2 s) := by unfold dlN pc; rw [tkS_I (by decide), tk2_I (by decide)]; simp only [tk_A]
  unfold QD at *; rw [e, show sI (tkS s) 5 = sI (tk2 s) 5 by unfold tkS; rw [sI_uI, if_neg (by decide)]]; exact g
theorem tkF_all : ∀ (m : Nat) (s : St) (D : Nat), Ev s → PSA s → QD D s → (sI s 3).toInt + m ≤ 1000000 → PSA (tkF m s) ∧ QD D (tkF m s) ∧ (sI (tkF m s) 3).toInt = (sI s 3).toInt + m
  | 0, s, D, _, h, q, _ => ⟨h, q, by rw [tkF]; omega⟩
  | m + 1, s, D, hE, h, q, hn => by
    have e3 : (sI (tkS s) 3).toInt = (sI s 3).toInt + 1 := by
      rw [tkS_3 hE, ia (by simp only [Int32.reduceToInt]; have := h.1; omega) (by simp only [Int32.reduceToInt]; omega)]; rfl
    obtain ⟨r1, r2, r3⟩ := tkF_all m (tkS s) D (Ev_tk hE) (PSA_tk hE h (by omega)) (QD_tk hE q) (by omega)
    exact ⟨r1, r2, by rw [tkF, r3]; omega⟩
theorem st_all (hE : Ev s) (h : PSA s) (hn : (sI s 3).toInt + 32 ≤ 1000000) : PSA (stS s a) ∧ (sI (stS s a) 5).toInt = (dlN (stS s a) : Int) - dlN s ∧ dlN s ≤ dlN (stS s a) ∧ (sI (stS s a) 3).toInt = (sI s 3).toInt + (cl 1 32 a).toInt := by
  have hr := cl_rg (lo := 1) (hi := 32) a (by decide)
  simp only [Int32.reduceToInt] at hr
  have h5 : PSA (uI s 5 0) := by
    refine ⟨by rw [I_5 (by decide)]; exact h.1, fun j hj => ?_⟩
    rw [pc_5] at hj
    have := h.2 j hj; unfold PS8 at *; simp only [sA_uI]; rw [I_5 (by decide), I_5 (by decide)]; exact this
  have q5 : QD (dlN s) (uI s 5 0) := ⟨by rw [sI_uI, if_pos rfl, dlN5]; simp only [Int32.reduceToInt]; omega, by rw [dlN5]; exact Nat.le_refl _⟩
  obtain ⟨r1, r2, r3⟩ := tkF_all (cl 1 32 a).toInt.toNat (uI s 5 0) (dlN s) (Ev5 hE) h5 q5 (by rw [I_5 (by decide)]; omega)
  refine ⟨r1, r2.1, r2.2, ?_⟩
  show (sI (tkF (cl 1 32 a).toInt.toNat (uI s 5 0)) 3).toInt = _
  rw [r3, I_5 (by decide)]; omega
end Ii

section Jj
variable {s s' v : St} {a b c d x y z : Int32} {i j : Nat}
def dr3 (x : Int32) : Prop := x = 0 ∨ x = 1 ∨ x = -1
theorem dr3_n (h : dr3 x) : dr3 (-x) := by rcases h with rfl | rfl | rfl <;> unfold dr3 <;> decide
theorem chs_d (h : dr3 (sA s 3 c.toNatClampNeg)) : dr3 (chs s c) := by
  have h1 : dr3 (sdr s c) := by unfold sdr; split; exact Or.inr (Or.inl rfl); exact h
  unfold chs; split
  · exact h1
  · split
    · exact dr3_n h1
    · exact Or.inl rfl
theorem anyN_e {f : Nat → Bool} : ∀ (m j : Nat), anyN f j m = true → ∃ i, j ≤ i ∧ i < j + m ∧ f i = true
  | 0, j, h => by cases h
  | m + 1, j, h => by
    rw [anyN] at h; split at h
    · rename_i q; exact ⟨j, by omega, by omega, q⟩
    · obtain ⟨i, a, b, c⟩ := anyN_e m (j + 1) h; exact ⟨i, by omega, by omega, c⟩
theorem byd_rg (hE : Ev s) (h : byd s c x = true) (hf : 0 ≤ (sA s 1 c.toNatClampNeg).toInt ∧ (sA s 1 c.toNatClampNeg).toInt < (sI s 1).toInt) : 0 ≤ (sA s 1 c.toNatClampNeg + x).toInt ∧ (sA s 1 c.toNatClampNeg + x).toInt < (sI s 1).toInt := by
  obtain ⟨g, -, g2, g3⟩ := anyN_e _ _ h
  unfold byF at g3; rw [Bool.and_eq_true] at g3
  have hn := hE.2.1
  have eg : (Int32.ofNat g).toInt = g := Int32.toInt_ofNat_of_lt (by omega)
  rcases of_decide_eq_true g3.1 with ⟨e, q⟩ | ⟨e, q⟩
  · rw [lt32, eg] at q; subst e
    rw [ia (by simp only [Int32.reduceToInt]; omega) (by simp only [Int32.reduceToInt]; omega)]; simp only [Int32.reduceToInt]; omega
  · rw [lt32, eg] at q; subst e
    rw [ia (by simp only [Int32.reduceToInt]; omega) (by simp only [Int32.reduceToInt]; omega)]; simp only [Int32.reduceToInt]; omega
def CX (s : St) (c : Nat) : Prop := (0 ≤ (sA s 1 c).toInt ∧ (sA s 1 c).toInt < (sI s 1).toInt) ∧ dr3 (sA s 3 c) ∧ (sA s 2 c = 3 → 0 ≤ (sA s 1 c + sA s 3 c).toInt ∧ (sA s 1 c + sA s 3 c).toInt < (sI s 1).toInt)
def CR (s s' : St) (c : Nat) : Prop := sA s' 1 c = sA s 1 c ∨ (sA s 2 c = 3 ∧ sA s' 1 c = sA s 1 c + sA s 3 c)
def Oc (s s' : St) (c : Nat) : Prop := ∀ t u, (t = 1 ∨ t = 2 ∨ t = 3 ∨ t = 5) → u ≠ c → sA s' t u = sA s t u
theorem Oc.refl {c : Nat} : Oc s s c := fun _ _ _ _ => rfl
theorem Oc_uA {c t : Nat} {w : Int32} (h : Oc s s' c) : Oc s (uA s' t c w) c := fun t' u ht hu => by
  rw [sA_uA, if_neg (fun q => hu q.2)]; exact h t' u ht hu
theorem dlF_0 {f : Int32} : ∀ (m i : Nat) (s : St), (dlF c f m i 1 s).1 = 1 ∧ ((dlF c f m i 0 s).1 = 0 → (dlF c f m i 0 s).2 = s)
  | 0, i, s => ⟨rfl, fun _ => rfl⟩
  | m + 1, i, s => by
    refine ⟨?_, fun h => ?_⟩
    · rw [dlF]; split
      · exact (dlF_0 m (i + 1) _).1
      · exact (dlF_0 m (i + 1) _).1
    · rw [dlF] at h ⊢; split
      · rename_i q; rw [if_pos q, (dlF_0 m (i + 1) _).1] at h; exact absurd h (by decide)
      · rename_i q; rw [if_neg q] at h; exact (dlF_0 m (i + 1) s).2 h
theorem bdF_0 {f : Int32} : ∀ (m i : Nat) (s : St), (bdF c d f m i 1 s).1 = 1 ∧ ((bdF c d f m i 0 s).1 = 0 → (bdF c d f m i 0 s).2 = s)
  | 0, i, s => ⟨rfl, fun _ => rfl⟩
  | m + 1, i, s => by
    refine ⟨?_, fun h => ?_⟩
    · rw [bdF]; split
      · split
        · exact (bdF_0 m (i + 1) _).1
        · exact (bdF_0 m (i + 1) _).1
      · rfl
    · rw [bdF] at h ⊢; split
      · rename_i q; rw [if_pos q] at h; split
        · rename_i q2; rw [if_pos q2, (bdF_0 m (i + 1) _).1] at h; exact absurd h (by decide)
        · rename_i q2; rw [if_neg q2] at h; exact (bdF_0 m (i + 1) s).2 h
      · rfl
def Sm (s s' : St) (j : Nat) : Prop := sA s' 6 j = sA s 6 j ∧ sA s' 10 j = sA s 10 j ∧ sA s' 11 j = sA s 11 j ∧ sA s' 12 j = sA s 12 j
theorem Sm.refl : Sm s s j := ⟨rfl, rfl, rfl, rfl⟩
def Lf (s s' : St) (c : Int32) (f : Int32) (j : Nat) : Prop := rdF s c f j = true ∧ sA s' 6 j = 3 ∧ sA s' 10 j = sA s 10 j ∧ sA s' 11 j = sI s 3 ∧ sA s' 12 j = sA s 12 j
def Bo (s s' : St) (c d : Int32) (f : Int32) (j : Nat) : Prop := wdF s f d j = true ∧ sA s' 6 j = 2 ∧ sA s' 10 j = sI s 3 ∧ sA s' 11 j = sA s 11 j ∧ sA s' 12 j = c
theorem dl1_at (h : i ≠ j) : Sm s (dl1 s c i) j := by
  unfold Sm dl1; simp +decide only [sA_uI, sA_uA, false_and, ↓reduceIte, Ne.symm h, and_false, and_self]
theorem dl1_me : sA (dl1 s c i) 6 i = 3 ∧ sA (dl1 s c i) 10 i = sA s 10 i ∧ sA (dl1 s c i) 11 i = sI s 3 ∧ sA (dl1 s c i) 12 i = sA s 12 i := by
  unfold dl1; simp +decide only [sA_uI, sA_uA, false_and, ↓reduceIte, and_self]
theorem bd1_at (h : i ≠ j) : Sm s (bd1 s c i) j := by
  unfold Sm bd1; simp +decide only [sA_uA, false_and, ↓reduceIte, Ne.symm h, and_false, and_self]
theorem bd1_me : sA (bd1 s c i) 6 i = 2 ∧ sA (bd1 s c i) 10 i = sI s 3 ∧ sA (bd1 s c i) 11 i = sA s 11 i ∧ sA (bd1 s c i) 12 i = c := by
  unfold bd1; simp +decide only [sA_uA, false_and, ↓reduceIte, and_self]
theorem dlF_lt {f : Int32} : ∀ (m i j : Nat) (y : Int32) (s : St), j < i → Sm s (dlF c f m i y s).2 j
  | 0, _, _, _, _, _ => Sm.refl
  | m + 1, i, j, y, s, h => by
    rw [dlF]; split
    · have e := dl1_at (s := s) (c := c) (i := i) (j := j) (by omega)
      have q := dlF_lt (f := f) m (i + 1) j 1 (dl1 s c i) (by omega)
      exact ⟨q.1.trans e.1, q.2.1.trans e.2.1, q.2.2.1.trans e.2.2.1, q.2.2.2.trans e.2.2.2⟩
    · exact dlF_lt m (i + 1) j y s (by omega)
theorem dlF_at {f : Int32} : ∀ (m i j : Nat) (y : Int32) (s : St), Sm s (dlF c f m i y s).2 j ∨ Lf s (dlF c f m i y s).2 c f j
  | 0, _, _, _, _ => Or.inl Sm.refl
  | m + 1, i, j, y, s => by
    rw [dlF]; split
    · rename_i r
      by_cases e : i = j
      · subst e
        have q := dlF_lt (c := c) (f := f) m (i + 1) i 1 (dl1 s c i) (by omega)
        have me := dl1_me (s := s) (c := c) (i := i)
        exact Or.inr ⟨r, q.1.trans me.1, q.2.1.trans me.2.1, q.2.2.1.trans me.2.2.1, q.2.2.2.trans me.2.2.2⟩
      · have e1 := dl1_at (s := s) (c := c) e
        rcases dlF_at (f := f) m (i + 1) j 1 (dl1 s c i) with q | q
        · exact Or.inl ⟨q.1.trans e1.1, q.2.1.trans e1.2.1, q.2.2.1.trans e1.2.2.1, q.2.2.2.trans e1.2.2.2⟩
        · obtain ⟨q0, q1, q2, q3, q4⟩ := q
          refine Or.inr ⟨?_, q1, q2.trans e1.2.1, q3.trans (dl1_I (by decide)), q4.trans e1.2.2.2⟩
          unfold rdF at q0 ⊢; rw [e1.1, e1.2.2.2, dl1_A (by decide)] at q0; exact q0
    · exact dlF_at m (i + 1) j y s
theorem bdF_lt {f : Int32} : ∀ (m i j : Nat) (y : Int32) (s : St), j < i → Sm s (bdF c d f m i y s).2 j
  | 0, _, _, _, _, _ => Sm.refl
  | m + 1, i, j, y, s, h => by
    rw [bdF]; split
    · split
      · have e := bd1_at (s := s) (c := c) (i := i) (j := j) (by omega)
        have q := bdF_lt (f := f) m (i + 1) j 1 (bd1 s c i) (by omega)
        exact ⟨q.1.trans e.1, q.2.1.trans e.2.1, q.2.2.1.trans e.2.2.1, q.2.2.2.trans e.2.2.2⟩
      · exact bdF_lt m (i + 1) j y s (by omega)
    · exact Sm.refl
theorem bdF_at {f : Int32} : ∀ (m i j : Nat) (y : Int32) (s : St), Sm s (bdF c d f m i y s).2 j ∨ Bo s (bdF c d f m i y s).2 c d f j
  | 0, _, _, _, _ => Or.inl Sm.refl
  | m + 1, i, j, y, s => by
    rw [bdF]; split
    · split
      · rename_i r
        by_cases e : i = j
        · subst e
          have q := bdF_lt (c := c) (d := d) (f := f) m (i + 1) i 1 (bd1 s c i) (by omega)
          have me := bd1_me (s := s) (c := c) (i := i)
          exact Or.inr ⟨r, q.1.trans me.1, q.2.1.trans me.2.1, q.2.2.1.trans me.2.2.1, q.2.2.2.trans me.2.2.2⟩
        · have e1 := bd1_at (s := s) (c := c) e
          rcases bdF_at (f := f) m (i + 1) j 1 (bd1 s c i) with q | q
          · exact Or.inl ⟨q.1.trans e1.1, q.2.1.trans e1.2.1, q.2.2.1.trans e1.2.2.1, q.2.2.2.trans e1.2.2.2⟩
          · obtain ⟨q0, q1, q2, q3, q4⟩ := q
            refine Or.inr ⟨?_, q1, q2.trans bd1_I, q3.trans e1.2.2.1, q4⟩
            unfold wdF drn at q0 ⊢; rw [e1.1, bd1_A (by decide), bd1_A (by decide)] at q0; exact q0
      · exact bdF_at m (i + 1) j y s
    · exact Or.inl Sm.refl
def Pr (s s' : St) (c : Int32) (j : Nat) : Prop := Sm s s' j ∨
  (((sA s 6 j = 2 ∧ sA s 12 j = c ∧ sA s 8 j = sA s 1 c.toNatClampNeg ∧ sA s' 6 j = 3 ∧ sA s' 10 j = sA s 10 j ∧ sA s' 11 j = sI s 3 ∧ sA s' 12 j = sA s 12 j) ∨
    (sA s 6 j = 1 ∧ sA s 7 j = sA s 1 c.toNatClampNeg ∧ sA s' 6 j = 2 ∧ sA s' 10 j = sI s 3 ∧ sA s' 11 j = sA s 11 j ∧ sA s' 12 j = c)) ∧ sA s' 2 c.toNatClampNeg = 1 ∧ sA s' 1 c.toNatClampNeg = sA s 1 c.toNatClampNeg)
theorem Sm_uA {t u : Nat} {w : Int32} (ht : t = 1 ∨ t = 2 ∨ t = 3 ∨ t = 5) (h : Sm s s' j) : Sm s (uA s' t u w) j := by
  unfold Sm; simp only [sA_uA]
  rw [if_neg (by omega), if_neg (by omega), if_neg (by omega), if_neg (by omega)]; exact h
theorem rc_all (hE : Ev s) (hc : CX s c.toNatClampNeg) : CX (rcS s c) c.toNatClampNeg ∧ CR s (rcS s c) c.toNatClampNeg ∧ Oc s (rcS s c) c.toNatClampNeg ∧ (∀ t j, (t = 7 ∨ t = 8 ∨ t = 9) → sA (rcS s c) t j = sA s t j) ∧ ∀ j, Pr s (rcS s c) c j := by
  have hd := chs_d hc.2.1
  have k1 : ∀ w : St, sA (ss1 w c) 1 c.toNatClampNeg = sA w 1 c.toNatClampNeg ∧ sA (ss1 w c) 2 c.toNatClampNeg = sA w 2 c.toNatClampNeg ∧ sA (ss1 w c) 3 c.toNatClampNeg = chs w c := fun w => by unfold ss1; simp +decide only [sA_uA, false_and, ↓reduceIte, and_self]
  have I1 : ∀ w : St, sI (ss1 w c) 1 = sI w 1 := fun w => by unfold ss1; rw [sI_uA]
  have eE : Ev (ss1 s c) := Ev_A hE
  unfold rcS
  by_cases e0 : sA s 2 c.toNatClampNeg = 0
  · rw [if_pos e0]
    have q1 := k1 s
    have oc : Oc s (ss1 s c) c.toNatClampNeg := Oc_uA Oc.refl
    have sm : ∀ j, Sm s (ss1 s c) j := fun j => Sm_uA (by decide) Sm.refl
    have t789 : ∀ t j, (t = 7 ∨ t = 8 ∨ t = 9) → sA (ss1 s c) t j = sA s t j := fun t j ht => by unfold ss1; rw [sA_uA, if_neg (by omega)]
    unfold ssS; split
    · refine ⟨⟨by rw [q1.1, I1]; exact hc.1, by rw [q1.2.2]; exact hd, fun q => ?_⟩, Or.inl q1.1, oc, t789, fun j => Or.inl (sm j)⟩
      rw [q1.2.1, e0] at q; exact absurd q (by decide)
    · split
      · refine ⟨⟨?_, ?_, fun q => ?_⟩, Or.inl ?_, Oc_uA (Oc_uA oc), fun t j ht => ?_, fun j => Or.inl (Sm_uA (by decide) (Sm_uA (by decide) (sm j)))⟩
        · simp +decide only [sA_uA, sI_uA, false_and, ↓reduceIte]; rw [q1.1, I1]; exact hc.1
        · simp +decide only [sA_uA, false_and, ↓reduceIte]; rw [q1.2.2]; exact hd
        · simp +decide only [sA_uA, false_and, ↓reduceIte, and_self] at q
        · simp +decide only [sA_uA, false_and, ↓reduceIte]; exact q1.1
        · rw [sA_uA, if_neg (by omega), sA_uA, if_neg (by omega)]; exact t789 t j ht
      · split
        · rename_i hb
          have rg := byd_rg eE hb (by rw [q1.1, I1]; exact hc.1)
          refine ⟨⟨?_, ?_, fun _ => ?_⟩, Or.inl ?_, Oc_uA (Oc_uA oc), fun t j ht => ?_, fun j => Or.inl (Sm_uA (by decide) (Sm_uA (by decide) (sm j)))⟩
          · simp +decide only [sA_uA, sI_uA, false_and, ↓reduceIte]; rw [q1.1, I1]; exact hc.1
          · simp +decide only [sA_uA, false_and, ↓reduceIte]; rw [q1.2.2]; exact hd
          · simp +decide only [sA_uA, sI_uA, false_and, ↓reduceIte]; rw [q1.2.2]; exact rg
          · simp +decide only [sA_uA, false_and, ↓reduceIte]; exact q1.1
          · rw [sA_uA, if_neg (by omega), sA_uA, if_neg (by omega)]; exact t789 t j ht
        · refine ⟨⟨by rw [q1.1, I1]; exact hc.1, by rw [q1.2.2]; exact hd, fun q => ?_⟩, Or.inl q1.1, oc, t789, fun j => Or.inl (sm j)⟩
          rw [q1.2.1, e0] at q; exact absurd q (by decide)
  rw [if_neg e0]
  by_cases e3 : sA s 2 c.toNatClampNeg = 3
  · rw [if_pos e3]
    have rg := hc.2.2 e3
    have m1 : sA (sm1 s c) 1 c.toNatClampNeg = sA s 1 c.toNatClampNeg ∧ sA (sm1 s c) 2 c.toNatClampNeg = sA s 2 c.toNatClampNeg ∧ sA (sm1 s c) 3 c.toNatClampNeg = sA s 3 c.toNatClampNeg := by unfold sm1; simp +decide only [sA_uA, false_and, ↓reduceIte, and_self]
    have m2 : sA (sm2 s c) 1 c.toNatClampNeg = smf s c ∧ sA (sm2 s c) 2 c.toNatClampNeg = sA s 2 c.toNatClampNeg ∧ sA (sm2 s c) 3 c.toNatClampNeg = sA s 3 c.toNatClampNeg := by unfold sm2 sm1; simp +decide only [sA_uA, false_and, ↓reduceIte, and_self]
    have i1 : sI (sm1 s c) 1 = sI s 1 ∧ sI (sm2 s c) 1 = sI s 1 := by unfold sm2 sm1; simp only [sI_uA, and_self]
    have E2 : Ev (sm2 s c) := Ev_A (Ev_A hE)
    have oc1 : Oc s (sm1 s c) c.toNatClampNeg := Oc_uA Oc.refl
    have oc2 : Oc s (sm2 s c) c.toNatClampNeg := Oc_uA oc1
    have sm1' : ∀ j, Sm s (sm1 s c) j := fun j => Sm_uA (by decide) Sm.refl
    have sm2' : ∀ j, Sm s (sm2 s c) j := fun j => Sm_uA (by decide) (sm1' j)
    have t1 : ∀ t j, (t = 7 ∨ t = 8 ∨ t = 9) → sA (sm1 s c) t j = sA s t j := fun t j ht => by unfold sm1; rw [sA_uA, if_neg (by omega)]
    have t2 : ∀ t j, (t = 7 ∨ t = 8 ∨ t = 9) → sA (sm2 s c) t j = sA s t j := fun t j ht => by unfold sm2; rw [sA_uA, if_neg (by omega)]; exact t1 t j ht
    have rg2 : 0 ≤ (smf s c).toInt ∧ (smf s c).toInt < (sI s 1).toInt := rg
    unfold smS; split
    · exact ⟨⟨by rw [m1.1, i1.1]; exact hc.1, by rw [m1.2.2]; exact hc.2.1, fun _ => by rw [m1.1, m1.2.2, i1.1]; exact rg⟩, Or.inl m1.1, oc1, t1, fun j => Or.inl (sm1' j)⟩
    · split
      · refine ⟨⟨?_, ?_, fun q => ?_⟩, Or.inr ⟨e3, ?_⟩, Oc_uA (Oc_uA oc2), fun t j ht => ?_, fun j => Or.inl (Sm_uA (by decide) (Sm_uA (by decide) (sm2' j)))⟩
        · simp +decide only [sA_uA, sI_uA, false_and, ↓reduceIte]; rw [m2.1, i1.2]; exact rg2
        · simp +decide only [sA_uA, false_and, ↓reduceIte]; rw [m2.2.2]; exact hc.2.1
        · simp +decide only [sA_uA, false_and, ↓reduceIte, and_self] at q
        · simp +decide only [sA_uA, false_and, ↓reduceIte]; exact m2.1
        · rw [sA_uA, if_neg (by omega), sA_uA, if_neg (by omega)]; exact t2 t j ht
      · split
        · rename_i hb
          have rg3 := byd_rg E2 hb (by rw [m2.1, i1.2]; exact rg2)
          refine ⟨⟨?_, ?_, fun _ => ?_⟩, Or.inr ⟨e3, ?_⟩, Oc_uA oc2, fun t j ht => ?_, fun j => Or.inl (Sm_uA (by decide) (sm2' j))⟩
          · simp +decide only [sA_uA, sI_uA, false_and, ↓reduceIte]; rw [m2.1, i1.2]; exact rg2
          · simp +decide only [sA_uA, false_and, ↓reduceIte]; rw [m2.2.2]; exact hc.2.1
          · simp +decide only [sA_uA, sI_uA, false_and, ↓reduceIte]; rw [m2.2.2]; exact rg3
          · simp +decide only [sA_uA, false_and, ↓reduceIte]; exact m2.1
          · rw [sA_uA, if_neg (by omega)]; exact t2 t j ht
        · refine ⟨⟨?_, ?_, fun q => ?_⟩, Or.inr ⟨e3, ?_⟩, Oc_uA (Oc_uA oc2), fun t j ht => ?_, fun j => Or.inl (Sm_uA (by decide) (Sm_uA (by decide) (sm2' j)))⟩
          · simp +decide only [sA_uA, sI_uA, false_and, ↓reduceIte]; rw [m2.1, i1.2]; exact rg2
          · simp +decide only [sA_uA, false_and, ↓reduceIte]; rw [m2.2.2]; exact hc.2.1
          · simp +decide only [sA_uA, false_and, ↓reduceIte, and_self] at q
          · simp +decide only [sA_uA, false_and, ↓reduceIte]; exact m2.1
          · rw [sA_uA, if_neg (by omega), sA_uA, if_neg (by omega)]; exact t2 t j ht
  rw [if_neg e3]
  by_cases e1 : sA s 2 c.toNatClampNeg = 1
  · rw [if_pos e1]
    have a1 : ∀ t j, t ≠ 6 → t ≠ 11 → t ≠ 4 → sA (so1 s c) t j = sA s t j := fun t j x1 x2 x3 => dlF_A ⟨x1, x2, x3⟩ _ _ _ _
    have hd1 : dr3 (chs (so1 s c) c) := chs_d (by rw [a1 3 _ (by decide) (by decide) (by decide)]; exact hc.2.1)
    have a2 : ∀ t j, t ≠ 6 → t ≠ 11 → t ≠ 4 → t ≠ 3 → sA (so2 s c) t j = sA s t j := fun t j x1 x2 x3 x4 => by unfold so2; rw [sA_uA, if_neg (fun q => x4 q.1)]; exact a1 t j x1 x2 x3
    have a23 : sA (so2 s c) 3 c.toNatClampNeg = chs (so1 s c) c := by unfold so2; rw [sA_uA, if_pos ⟨rfl, rfl⟩]
    have oc2 : Oc s (so2 s c) c.toNatClampNeg := fun t u ht hu => by unfold so2; rw [sA_uA, if_neg (fun q => hu q.2)]; exact a1 t u (by omega) (by omega) (by omega)
    have a3 : ∀ t j, t ≠ 6 → t ≠ 11 → t ≠ 4 → t ≠ 10 → t ≠ 12 → sA (so3 s c) t j = sA (so2 s c) t j := fun t j x1 x2 x3 x4 x5 => by
      unfold so3; split
      · rfl
      · exact bdF_A ⟨x1, x4, x5, x3⟩ _ _ _ _
    have oc3 : Oc s (so3 s c) c.toNatClampNeg := fun t u ht hu => by rw [a3 t u (by omega) (by omega) (by omega) (by omega) (by omega)]; exact oc2 t u ht hu
    have i3 : sI (so3 s c) 1 = sI s 1 := so3_I (by decide)
    have i13 : sI (so2 s c) 3 = sI s 3 := by unfold so2 so1 dlv; rw [sI_uA, dlF_I (by decide)]
    have f3 : sA (so3 s c) 1 c.toNatClampNeg = sA s 1 c.toNatClampNeg := by rw [a3 1 _ (by decide) (by decide) (by decide) (by decide) (by decide), a2 1 _ (by decide) (by decide) (by decide) (by decide)]
    have s3 : sA (so3 s c) 2 c.toNatClampNeg = 1 := by rw [a3 2 _ (by decide) (by decide) (by decide) (by decide) (by decide), a2 2 _ (by decide) (by decide) (by decide) (by decide)]; exact e1
    have d3 : sA (so3 s c) 3 c.toNatClampNeg = chs (so1 s c) c := by rw [a3 3 _ (by decide) (by decide) (by decide) (by decide) (by decide)]; exact a23
    have t3 : ∀ t j, (t = 7 ∨ t = 8 ∨ t = 9) → sA (so3 s c) t j = sA s t j := fun t j ht => by rw [a3 t j (by omega) (by omega) (by omega) (by omega) (by omega)]; exact a2 t j (by omega) (by omega) (by omega) (by omega)
    have p3 : ∀ j, Sm s (so3 s c) j ∨ ((sA s 6 j = 2 ∧ sA s 12 j = c ∧ sA s 8 j = sA s 1 c.toNatClampNeg ∧ sA (so3 s c) 6 j = 3 ∧ sA (so3 s c) 10 j = sA s 10 j ∧ sA (so3 s c) 11 j = sI s 3 ∧ sA (so3 s c) 12 j = sA s 12 j) ∨ (sA s 6 j = 1 ∧ sA s 7 j = sA s 1 c.toNatClampNeg ∧ sA (so3 s c) 6 j = 2 ∧ sA (so3 s c) 10 j = sI s 3 ∧ sA (so3 s c) 11 j = sA s 11 j ∧ sA (so3 s c) 12 j = c)) := fun j => by
      have h1 : Sm s (so2 s c) j ∨ Lf s (so2 s c) c (sA s 1 c.toNatClampNeg) j := by
        rcases dlF_at (c := c) (f := sA s 1 c.toNatClampNeg) (pc s) 0 j 0 s with q | q
        · exact Or.inl (Sm_uA (by decide) q)
        · right
          obtain ⟨q0, q1, q2, q3, q4⟩ := q
          refine ⟨q0, ?_, ?_, ?_, ?_⟩ <;> (unfold so2; rw [sA_uA, if_neg (by omega)]; assumption)
      have h2 : Sm (so2 s c) (so3 s c) j ∨ ∃ d, Bo (so2 s c) (so3 s c) c d (sA (so2 s c) 1 c.toNatClampNeg) j := by
        unfold so3; split
        · exact Or.inl Sm.refl
        · rcases bdF_at (c := c) (d := chs (so1 s c) c) (f := sA (so2 s c) 1 c.toNatClampNeg) (pc (so2 s c)) 0 j 0 (so2 s c) with q | q
          · exact Or.inl q
          · exact Or.inr ⟨_, q⟩
      rcases h2 with q | ⟨d, q0, q1, q2, q3, q4⟩
      · rcases h1 with r | ⟨r0, r1, r2, r3, r4⟩
        · exact Or.inl ⟨q.1.trans r.1, q.2.1.trans r.2.1, q.2.2.1.trans r.2.2.1, q.2.2.2.trans r.2.2.2⟩
        · obtain ⟨z1, z2, z3⟩ := of_decide_eq_true r0
          exact Or.inr (Or.inl ⟨z1, z2, z3, q.1.trans r1, q.2.1.trans r2, q.2.2.1.trans r3, q.2.2.2.trans r4⟩)
      · obtain ⟨z1, z2, z3⟩ := of_decide_eq_true q0
        rcases h1 with r | ⟨r0, r1, r2, r3, r4⟩
        · rw [a2 7 _ (by decide) (by decide) (by decide) (by decide), a2 1 _ (by decide) (by decide) (by decide) (by decide)] at z2
          exact Or.inr (Or.inr ⟨r.1 ▸ z1, z2, q1, q2.trans i13, q3.trans r.2.2.1, q4⟩)
        · rw [r1] at z1; exact absurd z1 (by decide)
    unfold soS; split
    · rename_i hso
      refine ⟨⟨?_, ?_, fun q => ?_⟩, Or.inl ?_, Oc_uA oc3, fun t j ht => ?_, fun j => ?_⟩
      · simp +decide only [sA_uA, sI_uA, false_and, ↓reduceIte]; rw [f3, i3]; exact hc.1
      · simp +decide only [sA_uA, false_and, ↓reduceIte]; rw [d3]; exact hd1
      · simp +decide only [sA_uA, false_and, ↓reduceIte] at q; rw [s3] at q; exact absurd q (by decide)
      · simp +decide only [sA_uA, false_and, ↓reduceIte]; exact f3
      · rw [sA_uA, if_neg (by omega)]; exact t3 t j ht
      · rcases p3 j with q | q
        · exact Or.inl (Sm_uA (by decide) q)
        · refine Or.inr ⟨?_, ?_, ?_⟩
          · simp +decide only [sA_uA, false_and, ↓reduceIte]; exact q
          · simp +decide only [sA_uA, false_and, ↓reduceIte]; exact s3
          · simp +decide only [sA_uA, false_and, ↓reduceIte]; exact f3
    · rename_i hso
      have hso' : ¬ (¬ (dlv s c).1 = 0 ∨ (¬ chs (so1 s c) c = 0 ∧ ¬ (brd (so2 s c) c (chs (so1 s c) c)).1 = 0)) := fun q => hso (decide_eq_true q)
      have z1 : (dlv s c).1 = 0 := Decidable.byContradiction fun q => hso' (Or.inl q)
      have z2 : so1 s c = s := (dlF_0 (c := c) (f := sA s 1 c.toNatClampNeg) (pc s) 0 s).2 z1
      have z3 : so3 s c = so2 s c := by
        unfold so3; split
        · rfl
        · rename_i q
          have : (brd (so2 s c) c (chs (so1 s c) c)).1 = 0 := Decidable.byContradiction fun q2 => hso' (Or.inr ⟨q, q2⟩)
          exact (bdF_0 (c := c) (d := chs (so1 s c) c) (f := sA (so2 s c) 1 c.toNatClampNeg) (pc (so2 s c)) 0 (so2 s c)).2 this
      have sm3 : ∀ j, Sm s (so3 s c) j := fun j => by rw [z3]; unfold so2; rw [z2]; exact Sm_uA (by decide) Sm.refl
      have o4 : Oc s (so4 (so3 s c) c) c.toNatClampNeg := Oc_uA oc3
      have k4 : sA (so4 (so3 s c) c) 1 c.toNatClampNeg = sA s 1 c.toNatClampNeg ∧ sA (so4 (so3 s c) c) 2 c.toNatClampNeg = 1 ∧ sA (so4 (so3 s c) c) 3 c.toNatClampNeg = chs (so1 s c) c ∧ sI (so4 (so3 s c) c) 1 = sI s 1 := by
        unfold so4; simp +decide only [sA_uA, sI_uA, false_and, ↓reduceIte]; exact ⟨f3, s3, d3, i3⟩
      have t4 : ∀ t j, (t = 7 ∨ t = 8 ∨ t = 9) → sA (so4 (so3 s c) c) t j = sA s t j := fun t j ht => by unfold so4; rw [sA_uA, if_neg (by omega)]; exact t3 t j ht
      have sm4 : ∀ j, Sm s (so4 (so3 s c) c) j := fun j => Sm_uA (by decide) (sm3 j)
      split
      · refine ⟨⟨?_, ?_, fun q => ?_⟩, Or.inl ?_, Oc_uA o4, fun t j ht => ?_, fun j => Or.inl (Sm_uA (by decide) (sm4 j))⟩
        · simp +decide only [sA_uA, sI_uA, false_and, ↓reduceIte]; rw [k4.1, k4.2.2.2]; exact hc.1
        · simp +decide only [sA_uA, false_and, ↓reduceIte]; rw [k4.2.2.1]; exact hd1
        · simp +decide only [sA_uA, and_self, ↓reduceIte] at q
        · simp +decide only [sA_uA, false_and, ↓reduceIte]; exact k4.1
        · rw [sA_uA, if_neg (by omega)]; exact t4 t j ht
      · refine ⟨⟨by rw [k4.1, k4.2.2.2]; exact hc.1, by rw [k4.2.2.1]; exact hd1, fun q => ?_⟩, Or.inl k4.1, o4, t4, fun j => Or.inl (sm4 j)⟩
        rw [k4.2.1] at q; exact absurd q (by decide)
  rw [if_neg e1]
  by_cases e2 : sA s 2 c.toNatClampNeg = 2
  · rw [if_pos e2]
    have q1 := k1 s
    have oc : Oc s (ss1 s c) c.toNatClampNeg := Oc_uA Oc.refl
    have sm : ∀ j, Sm s (ss1 s c) j := fun j => Sm_uA (by decide) Sm.refl
    have t789 : ∀ t j, (t = 7 ∨ t = 8 ∨ t = 9) → sA (ss1 s c) t j = sA s t j := fun t j ht => by unfold ss1; rw [sA_uA, if_neg (by omega)]
    have gen' : ∀ u w : Int32, ¬ u = 3 → CX (uA (uA (ss1 s c) 2 c.toNatClampNeg u) 5 c.toNatClampNeg w) c.toNatClampNeg ∧ CR s (uA (uA (ss1 s c) 2 c.toNatClampNeg u) 5 c.toNatClampNeg w) c.toNatClampNeg ∧ Oc s (uA (uA (ss1 s c) 2 c.toNatClampNeg u) 5 c.toNatClampNeg w) c.toNatClampNeg ∧ (∀ t j, (t = 7 ∨ t = 8 ∨ t = 9) → sA (uA (uA (ss1 s c) 2 c.toNatClampNeg u) 5 c.toNatClampNeg w) t j = sA s t j) ∧ ∀ j, Pr s (uA (uA (ss1 s c) 2 c.toNatClampNeg u) 5 c.toNatClampNeg w) c j := fun u w hu => by
      refine ⟨⟨?_, ?_, fun q => ?_⟩, Or.inl ?_, Oc_uA (Oc_uA oc), fun t j ht => ?_, fun j => Or.inl (Sm_uA (by decide) (Sm_uA (by decide) (sm j)))⟩
      · simp +decide only [sA_uA, sI_uA, false_and, ↓reduceIte]; rw [q1.1, I1]; exact hc.1
      · simp +decide only [sA_uA, false_and, ↓reduceIte]; rw [q1.2.2]; exact hd
      · simp +decide only [sA_uA, false_and, ↓reduceIte, and_self] at q; exact absurd q hu
      · simp +decide only [sA_uA, false_and, ↓reduceIte]; exact q1.1
      · rw [sA_uA, if_neg (by omega), sA_uA, if_neg (by omega)]; exact t789 t j ht
    unfold scS; split
    · exact gen' 1 3 (by decide)
    · exact gen' 0 0 (by decide)
  rw [if_neg e2]
  exact ⟨hc, Or.inl rfl, Oc.refl, fun _ _ _ => rfl, fun j => Or.inl Sm.refl⟩
end Jj

section Kk
variable {s s0 s' v : St} {a b c d x y z : Int32} {i j k : Nat}
def nC (s : St) : Nat := (sI s 0).toInt.toNat
def PT (s0 v : St) (k i : Nat) : Prop :=
  (sA v 10 i = sA s0 10 i ∧ sA v 11 i = sA s0 11 i ∧ sA v 12 i = sA s0 12 i ∧ (sA v 6 i = sA s0 6 i ∨ (sA s0 6 i = 0 ∧ sA v 6 i = 1 ∧ sA s0 9 i = sI s0 3))) ∨
  (sA s0 6 i = 2 ∧ sA v 6 i = 3 ∧ sA v 10 i = sA s0 10 i ∧ sA v 11 i = sI s0 3 ∧ sA v 12 i = sA s0 12 i ∧ (sA v 12 i).toNatClampNeg < k ∧ sA v 2 (sA v 12 i).toNatClampNeg = 1 ∧ sA v 1 (sA v 12 i).toNatClampNeg = sA s0 8 i) ∨
  ((sA s0 6 i = 1 ∨ (sA s0 6 i = 0 ∧ sA s0 9 i = sI s0 3)) ∧ sA v 6 i = 2 ∧ sA v 10 i = sI s0 3 ∧ sA v 11 i = sA s0 11 i ∧ 0 ≤ (sA v 12 i).toInt ∧ (sA v 12 i).toNatClampNeg < k ∧ sA v 2 (sA v 12 i).toNatClampNeg = 1 ∧ sA v 1 (sA v 12 i).toNatClampNeg = sA s0 7 i)
def Mk (s0 v : St) (k : Nat) : Prop := Ev v ∧ (∀ x, x ≠ 5 → sI v x = sI s0 x) ∧ (∀ t j, (t = 7 ∨ t = 8 ∨ t = 9) → sA v t j = sA s0 t j) ∧ (∀ c, c < 4 → CX v c) ∧ (∀ c, CR s0 v c) ∧ (∀ c, k ≤ c → sA v 1 c = sA s0 1 c ∧ sA v 2 c = sA s0 2 c ∧ sA v 3 c = sA s0 3 c) ∧ ∀ i, PT s0 v k i
theorem arS_at : sA (arS s) 6 j = sA s 6 j ∨ (sA s 6 j = 0 ∧ sA (arS s) 6 j = 1 ∧ sA s 9 j = sI s 3) := by
  refine (itF_inv (f := arF) (I := fun v => (sI v 3 = sI s 3 ∧ sA v 9 j = sA s 9 j) ∧ (sA v 6 j = sA s 6 j ∨ (sA s 6 j = 0 ∧ sA v 6 j = 1 ∧ sA s 9 j = sI s 3))) (fun v e g => ?_) (pc s) 0 s ⟨⟨rfl, rfl⟩, Or.inl rfl⟩).2
  refine ⟨⟨by rw [arF_I]; exact g.1.1, by rw [arF_A (by decide)]; exact g.1.2⟩, ?_⟩
  unfold arF; split
  · rename_i q
    rw [sA_uA]
    by_cases e : j = e
    · subst e
      rw [if_pos ⟨rfl, rfl⟩]
      rcases g.2 with r | r
      · right; rw [r] at q; rw [g.1.2, g.1.1] at q; exact ⟨q.1, rfl, q.2⟩
      · rw [r.2.1] at q; exact absurd q.1 (by decide)
    · rw [if_neg (fun z => e z.2)]; exact g.2
  · exact g.2
theorem Mk_0 (hE : Ev s) (hc : ∀ c, c < 4 → CX s c) : Mk s (tk1 s) 0 := by
  have hA : ∀ t j, t ≠ 6 → t ≠ 13 → sA (tk1 s) t j = sA s t j := fun t j h1 h2 => by unfold tk1; rw [dpS_A h2, arS_A h1]
  have hI : ∀ x, sI (tk1 s) x = sI s x := fun x => tk1_I
  have h6 : ∀ j, sA (tk1 s) 6 j = sA (arS s) 6 j := fun j => by unfold tk1; rw [dpS_A (by decide)]
  refine ⟨hE.of (hI 0) (hI 1) (hI 4), fun x _ => hI x, fun t j ht => hA t j (by omega) (by omega), fun c h => ?_, fun c => Or.inl (hA 1 c (by decide) (by decide)), fun c _ => ⟨hA 1 c (by decide) (by decide), hA 2 c (by decide) (by decide), hA 3 c (by decide) (by decide)⟩, fun i => Or.inl ⟨hA 10 i (by decide) (by decide), hA 11 i (by decide) (by decide), hA 12 i (by decide) (by decide), ?_⟩⟩
  · unfold CX; rw [hA 1 c (by decide) (by decide), hA 2 c (by decide) (by decide), hA 3 c (by decide) (by decide), hI 1]; exact hc c h
  · rw [h6]; exact arS_at
theorem Mk_s (h : Mk s0 v k) (hk : k < 4) : Mk s0 (rcF v k) (k + 1) := by
  obtain ⟨hE, hI, h7, hX, hR, hS, hP⟩ := h
  have ek : (Int32.ofNat k).toNatClampNeg = k := by rw [cln, Int32.toInt_ofNat_of_lt (by omega)]; omega
  have ek' : (Int32.ofNat k).toInt = k := Int32.toInt_ofNat_of_lt (by omega)
  have r := rc_all (s := v) (c := Int32.ofNat k) hE (by rw [ek]; exact hX k hk)
  rw [ek] at r
  obtain ⟨r1, r2, r3, r4, r5⟩ := r
  have rI : ∀ x, x ≠ 5 → sI (rcF v k) x = sI v x := fun x hx => rcS_I hx
  have oth : ∀ t c, (t = 1 ∨ t = 2 ∨ t = 3 ∨ t = 5) → c ≠ k → sA (rcF v k) t c = sA v t c := r3
  refine ⟨Ev_rc hE, fun x hx => (rI x hx).trans (hI x hx), fun t j ht => (r4 t j ht).trans (h7 t j ht), fun c hc => ?_, fun c => ?_, fun c hc => ?_, fun i => ?_⟩
  · by_cases e : c = k
    · subst e; exact r1
    · unfold CX; rw [oth 1 c (by simp) e, oth 2 c (by simp) e, oth 3 c (by simp) e, rI 1 (by decide)]; exact hX c hc
  · by_cases e : c = k
    · subst e
      have q := hS c (Nat.le_refl _)
      unfold CR; rw [← q.1, ← q.2.1, ← q.2.2]; exact r2
    · unfold CR; rw [oth 1 c (by simp) e]; exact hR c
  · have e : c ≠ k := by omega
    have q := hS c (by omega)
    rw [oth 1 c (by simp) e, oth 2 c (by simp) e, oth 3 c (by simp) e]; exact q
  · have hP' := hP i
    have pr := r5 i
    have n3 : sI v 3 = sI s0 3 := hI 3 (by decide)
    unfold Pr at pr; rw [ek] at pr
    rcases pr with ⟨m6, m10, m11, m12⟩ | ⟨pr, o1, o2⟩
    · have m6' : sA (rcF v k) 6 i = sA v 6 i := m6
      have m10' : sA (rcF v k) 10 i = sA v 10 i := m10
      have m11' : sA (rcF v k) 11 i = sA v 11 i := m11
      have m12' : sA (rcF v k) 12 i = sA v 12 i := m12
      unfold PT; rw [m6', m10', m11', m12']
      rcases hP' with q | ⟨q1, q2, q3, q4, q5, q6, q7, q8⟩ | ⟨q1, q2, q3, q4, q4', q6, q7, q8⟩
      · exact Or.inl q
      · refine Or.inr (Or.inl ⟨q1, q2, q3, q4, q5, by omega, ?_, ?_⟩)
        · rw [oth 2 _ (by simp) (by omega)]; exact q7
        · rw [oth 1 _ (by simp) (by omega)]; exact q8
      · refine Or.inr (Or.inr ⟨q1, q2, q3, q4, q4', by omega, ?_, ?_⟩)
        · rw [oth 2 _ (by simp) (by omega)]; exact q7
        · rw [oth 1 _ (by simp) (by omega)]; exact q8
    · rcases pr with ⟨a1, a2, a3, a4, a5, a6, a7⟩ | ⟨a1, a2, a3, a4, a5, a6⟩
      · rcases hP' with ⟨q1, q2, q3, q4⟩ | ⟨q1, q2, -⟩ | ⟨q1, q2, q3, q4, q4', q6, q7, q8⟩
        · have b6 : sA s0 6 i = 2 := by
            rcases q4 with q | q
            · rw [← q]; exact a1
            · rw [q.2.1] at a1; exact absurd a1 (by decide)
          have b12 : (sA (rcF v k) 12 i).toNatClampNeg = k := by
            have : sA (rcF v k) 12 i = Int32.ofNat k := a7.trans a2
            rw [this]; exact ek
          refine Or.inr (Or.inl ⟨b6, a4, Eq.trans a5 q1, Eq.trans a6 n3, Eq.trans a7 q3, by omega, ?_, ?_⟩)
          · rw [b12]; exact o1
          · rw [b12]; refine Eq.trans o2 ?_; rw [← a3]; exact h7 8 i (by simp)
        · rw [q2] at a1; exact absurd a1 (by decide)
        · rw [a2, ek] at q6; omega
      · have b12 : (sA (rcF v k) 12 i).toNatClampNeg = k := by
          have : sA (rcF v k) 12 i = Int32.ofNat k := a6
          rw [this]; exact ek
        have b12' : 0 ≤ (sA (rcF v k) 12 i).toInt := by
          have : sA (rcF v k) 12 i = Int32.ofNat k := a6
          rw [this, ek']; omega
        rcases hP' with ⟨q1, q2, q3, q4⟩ | ⟨q1, q2, -⟩ | ⟨q1, q2, -⟩
        · refine Or.inr (Or.inr ⟨?_, a3, Eq.trans a4 n3, Eq.trans a5 q2, b12', by omega, ?_, ?_⟩)
          · rcases q4 with q | q
            · left; rw [← q]; exact a1
            · right; exact ⟨q.1, q.2.2⟩
          · rw [b12]; exact o1
          · rw [b12]; refine Eq.trans o2 ?_; rw [← a2]; exact h7 7 i (by simp)
        · rw [q2] at a1; exact absurd a1 (by decide)
        · rw [q2] at a1; exact absurd a1 (by decide)
theorem Mk_F : ∀ (m k : Nat) (v : St), Mk s0 v k → k + m ≤ 4 → Mk s0 (itF rcF m k v) (k + m)
  | 0, k, v, h, _ => h
  | m + 1, k, v, h, hk => by
    have := Mk_F m (k + 1) (rcF v k) (Mk_s h (by omega)) (by omega)
    rw [itF, show k + (m + 1) = k + 1 + m by omega]; exact this
def TK (s s' : St) : Prop := (∀ c, c < 4 → CX s' c) ∧ (∀ c, CR s s' c) ∧ (∀ t j, (t = 7 ∨ t = 8 ∨ t = 9) → sA s' t j = sA s t j) ∧ ∀ i, PT s s' (nC s) i
theorem tick (hE : Ev s) (hc : ∀ c, c < 4 → CX s c) : TK s (tkS s) := by
  have h := Mk_F (s0 := s) (nC s) 0 (tk1 s) (Mk_0 hE hc) (by unfold nC; have := hE.1; omega)
  rw [Nat.zero_add] at h
  have e : itF rcF (nC s) 0 (tk1 s) = tk2 s := rfl
  rw [e] at h
  obtain ⟨h1, h2, h3, h4, h5, h6, h7⟩ := h
  refine ⟨fun c hc => ?_, fun c => ?_, fun t j ht => by rw [tk_A]; exact h3 t j ht, fun i => ?_⟩
  · unfold CX; rw [tk_A, tk_A, tk_A, tkS_I (by decide)]; have := h4 c hc; unfold CX at this; rw [h2 1 (by decide)] at this; exact this
  · unfold CR; rw [tk_A]; exact h5 c
  · unfold PT; rw [tk_A, tk_A, tk_A, tk_A, tk_A, tk_A]; exact h7 i
def MR (s s' : St) (i : Nat) : Prop := (sA s 6 i).toInt ≤ (sA s' 6 i).toInt ∧ (sA s 10 i = -1 ∨ sA s' 10 i = sA s 10 i) ∧ (sA s 11 i = -1 ∨ sA s' 11 i = sA s 11 i) ∧ (sA s 12 i = -1 ∨ sA s' 12 i = sA s 12 i)
theorem MR.refl : MR s s i := ⟨Int.le_refl _, Or.inr rfl, Or.inr rfl, Or.inr rfl⟩
theorem MR.trans (h : MR s v i) (g : MR v s' i) : MR s s' i := by
  obtain ⟨h1, h2, h3, h4⟩ := h
  obtain ⟨g1, g2, g3, g4⟩ := g
  have t : ∀ {x y z : Int32}, (x = -1 ∨ y = x) → (y = -1 ∨ z = y) → (x = -1 ∨ z = x) := fun {x y z} p q => by
    rcases p with p | p
    · exact Or.inl p
    · subst p; exact q
  exact ⟨by omega, t h2 g2, t h3 g3, t h4 g4⟩
theorem apN_o {t f g : Int32} (hE : Ev s) (h4 : (sI s 4).toInt < 32) : (∀ j, j ≠ pc s → Sm s (apN s t f g) j ∧ sA (apN s t f g) 9 j = sA s 9 j) ∧ (sA (apN s t f g) 6 (pc s) = 0 ∧ sA (apN s t f g) 10 (pc s) = -1 ∧ sA (apN s t f g) 11 (pc s) = -1 ∧ sA (apN s t f g) 12 (pc s) = -1) ∧ (∀ u j, u < 6 → sA (apN s t f g) u j = sA s u j) ∧ ∀ x, x ≠ 4 → sI (apN s t f g) x = sI s x := by
  have e : (sI s 4).toNatClampNeg = pc s := rfl
  unfold apN Sm; rw [e]
  refine ⟨fun j hj => ?_, ?_, fun u j hu => ?_, fun x hx => ?_⟩
  · simp +decide only [sA_uI, sA_uA, hj, and_false, false_and, ↓reduceIte, and_self]
  · simp +decide only [sA_uI, sA_uA, and_self, false_and, ↓reduceIte]
  · simp only [sA_uI, sA_uA]
    rw [if_neg (by omega), if_neg (by omega), if_neg (by omega), if_neg (by omega), if_neg (by omega), if_neg (by omega), if_neg (by omega)]
  · simp only [sI_uI, sI_uA, if_neg hx]
end Kk

end Jvm.JX.Pj
namespace Jvm.JX.Lw
open Jvm Jvm.ClassFile Sem Op Lib Jvm.JX Jvm.JX.Pj
def lr0 : List Row := [(0, .new 7, 3, 19), (3, .dup, 1, 0), (4, .iconst 1, 1, 0), (5, .iload_n 0, 1, 0), (6, .iload_n 1, 1, 0), (7, .invokespecial 9, 3, 1), (10, .astore 4, 2, 0), (12, .iload_n 0, 1, 0), (13, .iconst 2, 1, 0), (14, .if_icmp .ge 7, 3, 0), (17, .iconst 2, 1, 0), (18, .goto 15, 3, 0), (21, .iload_n 0, 1, 0), (22, .bipush 16, 2, 0), (24, .if_icmp .le 8, 3, 0), (27, .bipush 16, 2, 0), (29, .goto 4, 3, 0), (32, .iload_n 0, 1, 0), (33, .istore 5, 2, 0), (35, .aload 4, 2, 0), (37, .iconst 0, 1, 0), (38, .iload_n 2, 1, 0), (39, .iload_n 3, 1, 0), (40, .invokevirtual 12, 3, 2), (43, .istore 6, 2, 0), (45, .iload_n 2, 1, 0), (46, .ifCond .lt 24, 3, 0), (49, .iload_n 2, 1, 0), (50, .iload 5, 2, 0), (52, .if_icmp .ge 18, 3, 0), (55, .iload_n 3, 1, 0), (56, .ifCond .lt 14, 3, 0), (59, .iload_n 3, 1, 0), (60, .iload 5, 2, 0), (62, .if_icmp .ge 8, 3, 0), (65, .iload_n 2, 1, 0), (66, .iload_n 3, 1, 0), (67, .if_icmp .ne 28, 3, 0), (70, .aload 4, 2, 0), (72, .invokevirtual 16, 3, 6), (75, .istore 7, 2, 0), (77, .iload 6, 2, 0), (79, .bipush (-2), 2, 0), (81, .if_icmp .ne 12, 3, 0), (84, .iload 7, 2, 0), (86, .ifCond .ne 7, 3, 0), (89, .iconst 1, 1, 0), (90, .goto 4, 3, 0), (93, .iconst 0, 1, 0), (94, .ireturn, 1, 0), (95, .iload 6, 2, 0), (97, .ifCond .eq 5, 3, 0), (100, .iconst 0, 1, 0), (101, .ireturn, 1, 0), (102, .aload 4, 2, 0), (104, .bipush 32, 2, 0), (106, .invokevirtual 20, 3, 4), (109, .istore 7, 2, 0), (111, .aload 4, 2, 0), (113, .bipush 32, 2, 0), (115, .invokevirtual 20, 3, 4), (118, .istore 8, 2, 0), (120, .aload 4, 2, 0), (122, .bipush 32, 2, 0), (124, .invokevirtual 20, 3, 4), (127, .istore 9, 2, 0), (129, .iload_n 2, 1, 0), (130, .ifCond .ne 7, 3, 0), (133, .iconst 1, 1, 0), (134, .goto 8, 3, 0), (137, .iconst 2, 1, 0), (138, .iload_n 2, 1, 0), (139, .imul, 1, 0), (140, .iconst 2, 1, 0), (141, .iadd, 1, 0), (142, .istore 10, 2, 0), (144, .iload_n 3, 1, 0), (145, .iload_n 2, 1, 0), (146, .if_icmp .le 9, 3, 0), (149, .iload_n 3, 1, 0), (150, .iload_n 2, 1, 0), (151, .isub, 1, 0), (152, .goto 6, 3, 0), (155, .iload_n 2, 1, 0), (156, .iload_n 3, 1, 0), (157, .isub, 1, 0), (158, .istore 11, 2, 0), (160, .iload 10, 2, 0), (162, .bipush 7, 2, 0), (164, .iadd, 1, 0), (165, .iconst 2, 1, 0), (166, .iload 11, 2, 0), (168, .imul, 1, 0), (169, .iadd, 1, 0), (170, .istore 12, 2, 0), (172, .iload 10, 2, 0), (174, .bipush 28, 2, 0), (176, .if_icmp .ge 10, 3, 0), (179, .iload 10, 2, 0), (181, .iconst 4, 1, 0), (182, .idiv, 1, 0), (183, .goto 5, 3, 0), (186, .bipush 7, 2, 0), (188, .istore 13, 2, 0), (190, .iload 12, 2, 0), (192, .bipush 28, 2, 0), (194, .if_icmp .ge 10, 3, 0), (197, .iload 12, 2, 0), (199, .iconst 4, 1, 0), (200, .idiv, 1, 0), (201, .goto 5, 3, 0), (204, .bipush 7, 2, 0), (206, .istore 14, 2, 0), (208, .aload 4, 2, 0), (210, .invokevirtual 24, 3, 5), (213, .istore 15, 2, 0), (215, .aload 4, 2, 0), (217, .invokevirtual 27, 3, 7), (220, .istore 16, 2, 0), (222, .aload 4, 2, 0), (224, .iconst 0, 1, 0), (225, .iconst 0, 1, 0), (226, .invokevirtual 30, 3, 9), (229, .istore 17, 2, 0), (231, .aload 4, 2, 0), (233, .iconst 0, 1, 0), (234, .iconst 4, 1, 0), (235, .invokevirtual 30, 3, 9), (238, .istore 18, 2, 0), (240, .aload 4, 2, 0), (242, .iconst 0, 1, 0), (243, .iconst 5, 1, 0), (244, .invokevirtual 30, 3, 9), (247, .istore 19, 2, 0), (249, .aload 4, 2, 0), (251, .iconst 0, 1, 0), (252, .bipush 6, 2, 0), (254, .invokevirtual 30, 3, 9), (257, .istore 20, 2, 0), (259, .aload 4, 2, 0), (261, .invokevirtual 34, 3, 12), (264, .istore 21, 2, 0), (266, .aload 4, 2, 0), (268, .invokevirtual 37, 3, 13), (271, .istore 22, 2, 0), (273, .aload 4, 2, 0), (275, .iconst 0, 1, 0), (276, .iload 13, 2, 0), (278, .invokevirtual 40, 3, 14), (281, .istore 23, 2, 0), (283, .aload 4, 2, 0), (285, .iconst 1, 1, 0), (286, .iload 14, 2, 0), (288, .invokevirtual 40, 3, 14), (291, .istore 24, 2, 0), (293, .aload 4, 2, 0), (295, .iconst 0, 1, 0), (296, .iconst 0, 1, 0), (297, .invokevirtual 43, 3, 8), (300, .istore 25, 2, 0), (302, .aload 4, 2, 0), (304, .iconst 0, 1, 0), (305, .iconst 1, 1, 0), (306, .invokevirtual 43, 3, 8), (309, .istore 26, 2, 0), (311, .aload 4, 2, 0), (313, .iconst 0, 1, 0), (314, .iconst 2, 1, 0), (315, .invokevirtual 43, 3, 8), (318, .istore 27, 2, 0), (320, .aload 4, 2, 0), (322, .iconst 0, 1, 0), (323, .iconst 3, 1, 0), (324, .invokevirtual 43, 3, 8), (327, .istore 28, 2, 0), (329, .aload 4, 2, 0), (331, .iconst 0, 1, 0), (332, .iconst 4, 1, 0), (333, .invokevirtual 43, 3, 8), (336, .istore 29, 2, 0), (338, .iload 7, 2, 0), (340, .iload 8, 2, 0), (342, .iadd, 1, 0), (343, .iload 9, 2, 0), (345, .iadd, 1, 0), (346, .iconst 1, 1, 0), (347, .if_icmp .ne 97, 3, 0), (350, .iload 15, 2, 0), (352, .bipush 96, 2, 0), (354, .if_icmp .ne 90, 3, 0), (357, .iload 16, 2, 0), (359, .iconst 1, 1, 0), (360, .if_icmp .ne 84, 3, 0), (363, .iload 17, 2, 0), (365, .iconst 3, 1, 0), (366, .if_icmp .ne 78, 3, 0), (369, .iload 18, 2, 0), (371, .iload 10, 2, 0), (373, .if_icmp .ne 71, 3, 0), (376, .iload 19, 2, 0), (378, .iload 12, 2, 0), (380, .if_icmp .ne 64, 3, 0), (383, .iload 20, 2, 0), (385, .ifCond .ne 59, 3, 0), (388, .iload 21, 2, 0), (390, .iload 10, 2, 0), (392, .if_icmp .ne 52, 3, 0), (395, .iload 22, 2, 0), (397, .iload 12, 2, 0), (399, .if_icmp .ne 45, 3, 0), (402, .iload 23, 2, 0), (404, .iconst 1, 1, 0), (405, .if_icmp .ne 39, 3, 0), (408, .iload 24, 2, 0), (410, .iconst 1, 1, 0), (411, .if_icmp .ne 33, 3, 0), (414, .iload 25, 2, 0), (416, .iload_n 3, 1, 0), (417, .if_icmp .ne 27, 3, 0), (420, .iload 26, 2, 0), (422, .ifCond .ne 22, 3, 0), (425, .iload 27, 2, 0), (427, .ifCond .ne 17, 3, 0), (430, .iload 28, 2, 0), (432, .ifCond .ne 12, 3, 0), (435, .iload 29, 2, 0), (437, .ifCond .ne 7, 3, 0), (440, .iconst 1, 1, 0), (441, .goto 4, 3, 0), (444, .iconst 0, 1, 0), (445, .ireturn, 1, 0)]
def lrows : List (List Row) := [lr0]
def linfo : List MInfo := [(4, 30, 9, some .boolean, { frames := 13, cells := 40, slots := 704, locals := 272 })]
def lw : LW := (fun j pc => (lrows.getD j []).lookup pc, fun j => linfo.getD j (0, 0, 9, none, {}))
section LPc
variable {L : List Slot} {S : List Value} {k n : Nat} {H : AH} {Q : Option Value → AH → Prop}
theorem c100 {x0 : Int32} {x1 : Int32} {x2 : Int32} {x3 : Int32} : Cl (pj lw) 100 [.int x0, .int x1, .int x2, .int x3] H Q ↔ W (pj lw) 100 0 [.val (.int x0), .val (.int x1), .val (.int x2), .val (.int x3), .unset, .unset, .unset, .unset, .unset, .unset, .unset, .unset, .unset, .unset, .unset, .unset, .unset, .unset, .unset, .unset, .unset, .unset, .unset, .unset, .unset, .unset, .unset, .unset, .unset, .unset] [] 0 0 H Q := cl_unf rfl
theorem w100_0 : W (pj lw) 100 0 L S k n H Q ↔ ((k + 1 ≤ 40 ∧ n + 19 ≤ 704) ∧ W (pj lw) 100 3 L (.ref H.1 :: S) (k + 1) (n + 19) (mkO (pj lw) H) Q) := W_new' (rfl : (pj lw).1 100 0 = some (.new 7, 3, 19)) (by decide)
theorem w100_3 {x : Nat} : W (pj lw) 100 3 L (.ref x :: S) k n H Q ↔ W (pj lw) 100 4 L (.ref x :: .ref x :: S) k n H Q := W_s (rfl : (pj lw).1 100 3 = some (.dup, 1, 0)) rfl rfl rfl
theorem w100_4 : W (pj lw) 100 4 L S k n H Q ↔ W (pj lw) 100 5 L (.int 1 :: S) k n H Q := W_s (rfl : (pj lw).1 100 4 = some (.iconst 1, 1, 0)) rfl rfl rfl
theorem w100_5 {x : Int32} : W (pj lw) 100 5 (.val (.int x) :: L) S k n H Q ↔ W (pj lw) 100 6 (.val (.int x) :: L) (.int x :: S) k n H Q := W_s (rfl : (pj lw).1 100 5 = some (.iload_n 0, 1, 0)) rfl rfl rfl
theorem w100_6 {x : Int32} {l0 : Slot} : W (pj lw) 100 6 (l0 :: .val (.int x) :: L) S k n H Q ↔ W (pj lw) 100 7 (l0 :: .val (.int x) :: L) (.int x :: S) k n H Q := W_s (rfl : (pj lw).1 100 6 = some (.iload_n 1, 1, 0)) rfl rfl rfl
theorem w100_7 {a : Nat} {x0 : Int32} {x1 : Int32} {x2 : Int32} : W (pj lw) 100 7 L (.int x2 :: .int x1 :: .int x0 :: .ref a :: S) k n H Q ↔ ((isO H a = true ∧ cs S + (5 + 11) + 16 ≤ 272 ∧ k + 13 ≤ 40 ∧ n + 276 ≤ 704) ∧ Cl (pj lw) 1 [.ref a, .int x0, .int x1, .int x2] H (fun v H => W (pj lw) 100 10 L (v.toList ++ S) (k + 13) (n + 276) H Q)) := W_init (as := [.int x0, .int x1, .int x2]) (rfl : (pj lw).1 100 7 = some (.invokespecial 9, 3, 1)) rfl rfl rfl (Nat.le_of_ble_eq_true rfl) (Nat.le_of_ble_eq_true rfl) (fun h => absurd (show (13 : Nat) = 0 from h.1) (by decide))
theorem w100_10 {x : Nat} {l0 l1 l2 l3 : Slot} : W (pj lw) 100 10 (l0 :: l1 :: l2 :: l3 :: .unset :: L) (.ref x :: S) k n H Q ↔ W (pj lw) 100 12 (l0 :: l1 :: l2 :: l3 :: .val (.ref x) :: L) S k n H Q := W_ast (rfl : (pj lw).1 100 10 = some (.astore 4, 2, 0)) rfl rfl
theorem w100_12 {x : Int32} : W (pj lw) 100 12 (.val (.int x) :: L) S k n H Q ↔ W (pj lw) 100 13 (.val (.int x) :: L) (.int x :: S) k n H Q := W_s (rfl : (pj lw).1 100 12 = some (.iload_n 0, 1, 0)) rfl rfl rfl
theorem w100_13 : W (pj lw) 100 13 L S k n H Q ↔ W (pj lw) 100 14 L (.int 2 :: S) k n H Q := W_s (rfl : (pj lw).1 100 13 = some (.iconst 2, 1, 0)) rfl rfl rfl
theorem w100_14 {x y : Int32} : W (pj lw) 100 14 L (.int y :: .int x :: S) k n H Q ↔ (if x < y then W (pj lw) 100 17 L S k n H Q else W (pj lw) 100 21 L S k n H Q) := W_icmp_ge (rfl : (pj lw).1 100 14 = some (.if_icmp .ge 7, 3, 0)) rfl
theorem w100_17 : W (pj lw) 100 17 L S k n H Q ↔ W (pj lw) 100 18 L (.int 2 :: S) k n H Q := W_s (rfl : (pj lw).1 100 17 = some (.iconst 2, 1, 0)) rfl rfl rfl
theorem w100_18 : W (pj lw) 100 18 L S k n H Q ↔ W (pj lw) 100 33 L S k n H Q := W_goto (rfl : (pj lw).1 100 18 = some (.goto 15, 3, 0)) rfl
theorem w100_21 {x : Int32} : W (pj lw) 100 21 (.val (.int x) :: L) S k n H Q ↔ W (pj lw) 100 22 (.val (.int x) :: L) (.int x :: S) k n H Q := W_s (rfl : (pj lw).1 100 21 = some (.iload_n 0, 1, 0)) rfl rfl rfl
theorem w100_22 : W (pj lw) 100 22 L S k n H Q ↔ W (pj lw) 100 24 L (.int 16 :: S) k n H Q := W_s (rfl : (pj lw).1 100 22 = some (.bipush 16, 2, 0)) rfl rfl rfl
theorem w100_24 {x y : Int32} : W (pj lw) 100 24 L (.int y :: .int x :: S) k n H Q ↔ (if y < x then W (pj lw) 100 27 L S k n H Q else W (pj lw) 100 32 L S k n H Q) := W_icmp_le (rfl : (pj lw).1 100 24 = some (.if_icmp .le 8, 3, 0)) rfl
theorem w100_27 : W (pj lw) 100 27 L S k n H Q ↔ W (pj lw) 100 29 L (.int 16 :: S) k n H Q := W_s (rfl : (pj lw).1 100 27 = some (.bipush 16, 2, 0)) rfl rfl rfl
theorem w100_29 : W (pj lw) 100 29 L S k n H Q ↔ W (pj lw) 100 33 L S k n H Q := W_goto (rfl : (pj lw).1 100 29 = some (.goto 4, 3, 0)) rfl
theorem w100_32 {x : Int32} : W (pj lw) 100 32 (.val (.int x) :: L) S k n H Q ↔ W (pj lw) 100 33 (.val (.int x) :: L) (.int x :: S) k n H Q := W_s (rfl : (pj lw).1 100 32 = some (.iload_n 0, 1, 0)) rfl rfl rfl
theorem w100_33 {x : Int32} {l0 l1 l2 l3 l4 : Slot} : W (pj lw) 100 33 (l0 :: l1 :: l2 :: l3 :: l4 :: .unset :: L) (.int x :: S) k n H Q ↔ W (pj lw) 100 35 (l0 :: l1 :: l2 :: l3 :: l4 :: .val (.int x) :: L) S k n H Q := W_ist (rfl : (pj lw).1 100 33 = some (.istore 5, 2, 0)) rfl rfl
theorem w100_35 {x : Nat} {l0 l1 l2 l3 : Slot} : W (pj lw) 100 35 (l0 :: l1 :: l2 :: l3 :: .val (.ref x) :: L) S k n H Q ↔ W (pj lw) 100 37 (l0 :: l1 :: l2 :: l3 :: .val (.ref x) :: L) (.ref x :: S) k n H Q := W_s (rfl : (pj lw).1 100 35 = some (.aload 4, 2, 0)) rfl rfl rfl
theorem w100_37 : W (pj lw) 100 37 L S k n H Q ↔ W (pj lw) 100 38 L (.int 0 :: S) k n H Q := W_s (rfl : (pj lw).1 100 37 = some (.iconst 0, 1, 0)) rfl rfl rfl
theorem w100_38 {x : Int32} {l0 l1 : Slot} : W (pj lw) 100 38 (l0 :: l1 :: .val (.int x) :: L) S k n H Q ↔ W (pj lw) 100 39 (l0 :: l1 :: .val (.int x) :: L) (.int x :: S) k n H Q := W_s (rfl : (pj lw).1 100 38 = some (.iload_n 2, 1, 0)) rfl rfl rfl
theorem w100_39 {x : Int32} {l0 l1 l2 : Slot} : W (pj lw) 100 39 (l0 :: l1 :: l2 :: .val (.int x) :: L) S k n H Q ↔ W (pj lw) 100 40 (l0 :: l1 :: l2 :: .val (.int x) :: L) (.int x :: S) k n H Q := W_s (rfl : (pj lw).1 100 39 = some (.iload_n 3, 1, 0)) rfl rfl rfl
theorem w100_40 {a : Nat} {x0 : Int32} {x1 : Int32} {x2 : Int32} : W (pj lw) 100 40 L (.int x2 :: .int x1 :: .int x0 :: .ref a :: S) k n H Q ↔ ((isO H a = true ∧ cs S + (5 + 11) + 0 ≤ 272) ∧ Cl (pj lw) 2 [.ref a, .int x0, .int x1, .int x2] H (fun v H => W (pj lw) 100 43 L (v.toList ++ S) k n H Q)) := W_inst (as := [.int x0, .int x1, .int x2]) (rfl : (pj lw).1 100 40 = some (.invokevirtual 12, 3, 2)) rfl rfl rfl (Nat.le_of_ble_eq_true rfl) (Nat.le_of_ble_eq_true rfl) ⟨rfl, rfl⟩
theorem w100_43 {x : Int32} {l0 l1 l2 l3 l4 l5 : Slot} : W (pj lw) 100 43 (l0 :: l1 :: l2 :: l3 :: l4 :: l5 :: .unset :: L) (.int x :: S) k n H Q ↔ W (pj lw) 100 45 (l0 :: l1 :: l2 :: l3 :: l4 :: l5 :: .val (.int x) :: L) S k n H Q := W_ist (rfl : (pj lw).1 100 43 = some (.istore 6, 2, 0)) rfl rfl
theorem w100_45 {x : Int32} {l0 l1 : Slot} : W (pj lw) 100 45 (l0 :: l1 :: .val (.int x) :: L) S k n H Q ↔ W (pj lw) 100 46 (l0 :: l1 :: .val (.int x) :: L) (.int x :: S) k n H Q := W_s (rfl : (pj lw).1 100 45 = some (.iload_n 2, 1, 0)) rfl rfl rfl
theorem w100_46 {x : Int32} : W (pj lw) 100 46 L (.int x :: S) k n H Q ↔ (if x < 0 then W (pj lw) 100 70 L S k n H Q else W (pj lw) 100 49 L S k n H Q) := W_if_lt (rfl : (pj lw).1 100 46 = some (.ifCond .lt 24, 3, 0)) rfl
theorem w100_49 {x : Int32} {l0 l1 : Slot} : W (pj lw) 100 49 (l0 :: l1 :: .val (.int x) :: L) S k n H Q ↔ W (pj lw) 100 50 (l0 :: l1 :: .val (.int x) :: L) (.int x :: S) k n H Q := W_s (rfl : (pj lw).1 100 49 = some (.iload_n 2, 1, 0)) rfl rfl rfl
theorem w100_50 {x : Int32} {l0 l1 l2 l3 l4 : Slot} : W (pj lw) 100 50 (l0 :: l1 :: l2 :: l3 :: l4 :: .val (.int x) :: L) S k n H Q ↔ W (pj lw) 100 52 (l0 :: l1 :: l2 :: l3 :: l4 :: .val (.int x) :: L) (.int x :: S) k n H Q := W_s (rfl : (pj lw).1 100 50 = some (.iload 5, 2, 0)) rfl rfl rfl
theorem w100_52 {x y : Int32} : W (pj lw) 100 52 L (.int y :: .int x :: S) k n H Q ↔ (if x < y then W (pj lw) 100 55 L S k n H Q else W (pj lw) 100 70 L S k n H Q) := W_icmp_ge (rfl : (pj lw).1 100 52 = some (.if_icmp .ge 18, 3, 0)) rfl
theorem w100_55 {x : Int32} {l0 l1 l2 : Slot} : W (pj lw) 100 55 (l0 :: l1 :: l2 :: .val (.int x) :: L) S k n H Q ↔ W (pj lw) 100 56 (l0 :: l1 :: l2 :: .val (.int x) :: L) (.int x :: S) k n H Q := W_s (rfl : (pj lw).1 100 55 = some (.iload_n 3, 1, 0)) rfl rfl rfl
theorem w100_56 {x : Int32} : W (pj lw) 100 56 L (.int x :: S) k n H Q ↔ (if x < 0 then W (pj lw) 100 70 L S k n H Q else W (pj lw) 100 59 L S k n H Q) := W_if_lt (rfl : (pj lw).1 100 56 = some (.ifCond .lt 14, 3, 0)) rfl
theorem w100_59 {x : Int32} {l0 l1 l2 : Slot} : W (pj lw) 100 59 (l0 :: l1 :: l2 :: .val (.int x) :: L) S k n H Q ↔ W (pj lw) 100 60 (l0 :: l1 :: l2 :: .val (.int x) :: L) (.int x :: S) k n H Q := W_s (rfl : (pj lw).1 100 59 = some (.iload_n 3, 1, 0)) rfl rfl rfl
theorem w100_60 {x : Int32} {l0 l1 l2 l3 l4 : Slot} : W (pj lw) 100 60 (l0 :: l1 :: l2 :: l3 :: l4 :: .val (.int x) :: L) S k n H Q ↔ W (pj lw) 100 62 (l0 :: l1 :: l2 :: l3 :: l4 :: .val (.int x) :: L) (.int x :: S) k n H Q := W_s (rfl : (pj lw).1 100 60 = some (.iload 5, 2, 0)) rfl rfl rfl
theorem w100_62 {x y : Int32} : W (pj lw) 100 62 L (.int y :: .int x :: S) k n H Q ↔ (if x < y then W (pj lw) 100 65 L S k n H Q else W (pj lw) 100 70 L S k n H Q) := W_icmp_ge (rfl : (pj lw).1 100 62 = some (.if_icmp .ge 8, 3, 0)) rfl
theorem w100_65 {x : Int32} {l0 l1 : Slot} : W (pj lw) 100 65 (l0 :: l1 :: .val (.int x) :: L) S k n H Q ↔ W (pj lw) 100 66 (l0 :: l1 :: .val (.int x) :: L) (.int x :: S) k n H Q := W_s (rfl : (pj lw).1 100 65 = some (.iload_n 2, 1, 0)) rfl rfl rfl
theorem w100_66 {x : Int32} {l0 l1 l2 : Slot} : W (pj lw) 100 66 (l0 :: l1 :: l2 :: .val (.int x) :: L) S k n H Q ↔ W (pj lw) 100 67 (l0 :: l1 :: l2 :: .val (.int x) :: L) (.int x :: S) k n H Q := W_s (rfl : (pj lw).1 100 66 = some (.iload_n 3, 1, 0)) rfl rfl rfl
theorem w100_67 {x y : Int32} : W (pj lw) 100 67 L (.int y :: .int x :: S) k n H Q ↔ (if x = y then W (pj lw) 100 70 L S k n H Q else W (pj lw) 100 95 L S k n H Q) := W_icmp_ne (rfl : (pj lw).1 100 67 = some (.if_icmp .ne 28, 3, 0)) rfl
theorem w100_70 {x : Nat} {l0 l1 l2 l3 : Slot} : W (pj lw) 100 70 (l0 :: l1 :: l2 :: l3 :: .val (.ref x) :: L) S k n H Q ↔ W (pj lw) 100 72 (l0 :: l1 :: l2 :: l3 :: .val (.ref x) :: L) (.ref x :: S) k n H Q := W_s (rfl : (pj lw).1 100 70 = some (.aload 4, 2, 0)) rfl rfl rfl
theorem w100_72 {a : Nat} : W (pj lw) 100 72 L (.ref a :: S) k n H Q ↔ ((isO H a = true ∧ cs S + (1 + 11) + 0 ≤ 272) ∧ Cl (pj lw) 6 [.ref a] H (fun v H => W (pj lw) 100 75 L (v.toList ++ S) k n H Q)) := W_inst (as := []) (rfl : (pj lw).1 100 72 = some (.invokevirtual 16, 3, 6)) rfl rfl rfl (Nat.le_of_ble_eq_true rfl) (Nat.le_of_ble_eq_true rfl) ⟨rfl, rfl⟩
theorem w100_75 {x : Int32} {l0 l1 l2 l3 l4 l5 l6 : Slot} : W (pj lw) 100 75 (l0 :: l1 :: l2 :: l3 :: l4 :: l5 :: l6 :: .unset :: L) (.int x :: S) k n H Q ↔ W (pj lw) 100 77 (l0 :: l1 :: l2 :: l3 :: l4 :: l5 :: l6 :: .val (.int x) :: L) S k n H Q := W_ist (rfl : (pj lw).1 100 75 = some (.istore 7, 2, 0)) rfl rfl
theorem w100_77 {x : Int32} {l0 l1 l2 l3 l4 l5 : Slot} : W (pj lw) 100 77 (l0 :: l1 :: l2 :: l3 :: l4 :: l5 :: .val (.int x) :: L) S k n H Q ↔ W (pj lw) 100 79 (l0 :: l1 :: l2 :: l3 :: l4 :: l5 :: .val (.int x) :: L) (.int x :: S) k n H Q := W_s (rfl : (pj lw).1 100 77 = some (.iload 6, 2, 0)) rfl rfl rfl
theorem w100_79 : W (pj lw) 100 79 L S k n H Q ↔ W (pj lw) 100 81 L (.int (-2) :: S) k n H Q := W_s (rfl : (pj lw).1 100 79 = some (.bipush (-2), 2, 0)) rfl rfl rfl
theorem w100_81 {x y : Int32} : W (pj lw) 100 81 L (.int y :: .int x :: S) k n H Q ↔ (if x = y then W (pj lw) 100 84 L S k n H Q else W (pj lw) 100 93 L S k n H Q) := W_icmp_ne (rfl : (pj lw).1 100 81 = some (.if_icmp .ne 12, 3, 0)) rfl
theorem w100_84 {x : Int32} {l0 l1 l2 l3 l4 l5 l6 : Slot} : W (pj lw) 100 84 (l0 :: l1 :: l2 :: l3 :: l4 :: l5 :: l6 :: .val (.int x) :: L) S k n H Q ↔ W (pj lw) 100 86 (l0 :: l1 :: l2 :: l3 :: l4 :: l5 :: l6 :: .val (.int x) :: L) (.int x :: S) k n H Q := W_s (rfl : (pj lw).1 100 84 = some (.iload 7, 2, 0)) rfl rfl rfl
theorem w100_86 {x : Int32} : W (pj lw) 100 86 L (.int x :: S) k n H Q ↔ (if x = 0 then W (pj lw) 100 89 L S k n H Q else W (pj lw) 100 93 L S k n H Q) := W_if_ne (rfl : (pj lw).1 100 86 = some (.ifCond .ne 7, 3, 0)) rfl
theorem w100_89 : W (pj lw) 100 89 L S k n H Q ↔ W (pj lw) 100 90 L (.int 1 :: S) k n H Q := W_s (rfl : (pj lw).1 100 89 = some (.iconst 1, 1, 0)) rfl rfl rfl
theorem w100_90 : W (pj lw) 100 90 L S k n H Q ↔ W (pj lw) 100 94 L S k n H Q := W_goto (rfl : (pj lw).1 100 90 = some (.goto 4, 3, 0)) rfl
theorem w100_94 {x : Int32} : W (pj lw) 100 94 L (.int x :: S) k n H Q ↔ ((x = 0 ∨ x = 1) ∧ Q (some (.int x)) H) := W_rz (rfl : (pj lw).1 100 94 = some (.ireturn, 1, 0)) rfl
theorem w100_95 {x : Int32} {l0 l1 l2 l3 l4 l5 : Slot} : W (pj lw) 100 95 (l0 :: l1 :: l2 :: l3 :: l4 :: l5 :: .val (.int x) :: L) S k n H Q ↔ W (pj lw) 100 97 (l0 :: l1 :: l2 :: l3 :: l4 :: l5 :: .val (.int x) :: L) (.int x :: S) k n H Q := W_s (rfl : (pj lw).1 100 95 = some (.iload 6, 2, 0)) rfl rfl rfl
theorem w100_97 {x : Int32} : W (pj lw) 100 97 L (.int x :: S) k n H Q ↔ (if x = 0 then W (pj lw) 100 102 L S k n H Q else W (pj lw) 100 100 L S k n H Q) := W_if_eq (rfl : (pj lw).1 100 97 = some (.ifCond .eq 5, 3, 0)) rfl
theorem w100_102 {x : Nat} {l0 l1 l2 l3 : Slot} : W (pj lw) 100 102 (l0 :: l1 :: l2 :: l3 :: .val (.ref x) :: L) S k n H Q ↔ W (pj lw) 100 104 (l0 :: l1 :: l2 :: l3 :: .val (.ref x) :: L) (.ref x :: S) k n H Q := W_s (rfl : (pj lw).1 100 102 = some (.aload 4, 2, 0)) rfl rfl rfl
theorem w100_104 : W (pj lw) 100 104 L S k n H Q ↔ W (pj lw) 100 106 L (.int 32 :: S) k n H Q := W_s (rfl : (pj lw).1 100 104 = some (.bipush 32, 2, 0)) rfl rfl rfl
theorem w100_106 {a : Nat} {x0 : Int32} : W (pj lw) 100 106 L (.int x0 :: .ref a :: S) k n H Q ↔ ((isO H a = true ∧ cs S + (4 + 11) + 132 ≤ 272) ∧ Cl (pj lw) 4 [.ref a, .int x0] H (fun v H => W (pj lw) 100 109 L (v.toList ++ S) k n H Q)) := W_inst (as := [.int x0]) (rfl : (pj lw).1 100 106 = some (.invokevirtual 20, 3, 4)) rfl rfl rfl (Nat.le_of_ble_eq_true rfl) (Nat.le_of_ble_eq_true rfl) ⟨rfl, rfl⟩
theorem w100_109 {x : Int32} {l0 l1 l2 l3 l4 l5 l6 : Slot} : W (pj lw) 100 109 (l0 :: l1 :: l2 :: l3 :: l4 :: l5 :: l6 :: .unset :: L) (.int x :: S) k n H Q ↔ W (pj lw) 100 111 (l0 :: l1 :: l2 :: l3 :: l4 :: l5 :: l6 :: .val (.int x) :: L) S k n H Q := W_ist (rfl : (pj lw).1 100 109 = some (.istore 7, 2, 0)) rfl rfl
theorem w100_111 {x : Nat} {l0 l1 l2 l3 : Slot} : W (pj lw) 100 111 (l0 :: l1 :: l2 :: l3 :: .val (.ref x) :: L) S k n H Q ↔ W (pj lw) 100 113 (l0 :: l1 :: l2 :: l3 :: .val (.ref x) :: L) (.ref x :: S) k n H Q := W_s (rfl : (pj lw).1 100 111 = some (.aload 4, 2, 0)) rfl rfl rfl
theorem w100_113 : W (pj lw) 100 113 L S k n H Q ↔ W (pj lw) 100 115 L (.int 32 :: S) k n H Q := W_s (rfl : (pj lw).1 100 113 = some (.bipush 32, 2, 0)) rfl rfl rfl
theorem w100_115 {a : Nat} {x0 : Int32} : W (pj lw) 100 115 L (.int x0 :: .ref a :: S) k n H Q ↔ ((isO H a = true ∧ cs S + (4 + 11) + 132 ≤ 272) ∧ Cl (pj lw) 4 [.ref a, .int x0] H (fun v H => W (pj lw) 100 118 L (v.toList ++ S) k n H Q)) := W_inst (as := [.int x0]) (rfl : (pj lw).1 100 115 = some (.invokevirtual 20, 3, 4)) rfl rfl rfl (Nat.le_of_ble_eq_true rfl) (Nat.le_of_ble_eq_true rfl) ⟨rfl, rfl⟩
theorem w100_118 {x : Int32} {l0 l1 l2 l3 l4 l5 l6 l7 : Slot} : W (pj lw) 100 118 (l0 :: l1 :: l2 :: l3 :: l4 :: l5 :: l6 :: l7 :: .unset :: L) (.int x :: S) k n H Q ↔ W (pj lw) 100 120 (l0 :: l1 :: l2 :: l3 :: l4 :: l5 :: l6 :: l7 :: .val (.int x) :: L) S k n H Q := W_ist (rfl : (pj lw).1 100 118 = some (.istore 8, 2, 0)) rfl rfl
theorem w100_120 {x : Nat} {l0 l1 l2 l3 : Slot} : W (pj lw) 100 120 (l0 :: l1 :: l2 :: l3 :: .val (.ref x) :: L) S k n H Q ↔ W (pj lw) 100 122 (l0 :: l1 :: l2 :: l3 :: .val (.ref x) :: L) (.ref x :: S) k n H Q := W_s (rfl : (pj lw).1 100 120 = some (.aload 4, 2, 0)) rfl rfl rfl
theorem w100_122 : W (pj lw) 100 122 L S k n H Q ↔ W (pj lw) 100 124 L (.int 32 :: S) k n H Q := W_s (rfl : (pj lw).1 100 122 = some (.bipush 32, 2, 0)) rfl rfl rfl
theorem w100_124 {a : Nat} {x0 : Int32} : W (pj lw) 100 124 L (.int x0 :: .ref a :: S) k n H Q ↔ ((isO H a = true ∧ cs S + (4 + 11) + 132 ≤ 272) ∧ Cl (pj lw) 4 [.ref a, .int x0] H (fun v H => W (pj lw) 100 127 L (v.toList ++ S) k n H Q)) := W_inst (as := [.int x0]) (rfl : (pj lw).1 100 124 = some (.invokevirtual 20, 3, 4)) rfl rfl rfl (Nat.le_of_ble_eq_true rfl) (Nat.le_of_ble_eq_true rfl) ⟨rfl, rfl⟩
theorem w100_127 {x : Int32} {l0 l1 l2 l3 l4 l5 l6 l7 l8 : Slot} : W (pj lw) 100 127 (l0 :: l1 :: l2 :: l3 :: l4 :: l5 :: l6 :: l7 :: l8 :: .unset :: L) (.int x :: S) k n H Q ↔ W (pj lw) 100 129 (l0 :: l1 :: l2 :: l3 :: l4 :: l5 :: l6 :: l7 :: l8 :: .val (.int x) :: L) S k n H Q := W_ist (rfl : (pj lw).1 100 127 = some (.istore 9, 2, 0)) rfl rfl
theorem w100_129 {x : Int32} {l0 l1 : Slot} : W (pj lw) 100 129 (l0 :: l1 :: .val (.int x) :: L) S k n H Q ↔ W (pj lw) 100 130 (l0 :: l1 :: .val (.int x) :: L) (.int x :: S) k n H Q := W_s (rfl : (pj lw).1 100 129 = some (.iload_n 2, 1, 0)) rfl rfl rfl
theorem w100_130 {x : Int32} : W (pj lw) 100 130 L (.int x :: S) k n H Q ↔ (if x = 0 then W (pj lw) 100 133 L S k n H Q else W (pj lw) 100 137 L S k n H Q) := W_if_ne (rfl : (pj lw).1 100 130 = some (.ifCond .ne 7, 3, 0)) rfl
theorem w100_133 : W (pj lw) 100 133 L S k n H Q ↔ W (pj lw) 100 134 L (.int 1 :: S) k n H Q := W_s (rfl : (pj lw).1 100 133 = some (.iconst 1, 1, 0)) rfl rfl rfl
theorem w100_134 : W (pj lw) 100 134 L S k n H Q ↔ W (pj lw) 100 142 L S k n H Q := W_goto (rfl : (pj lw).1 100 134 = some (.goto 8, 3, 0)) rfl
theorem w100_137 : W (pj lw) 100 137 L S k n H Q ↔ W (pj lw) 100 138 L (.int 2 :: S) k n H Q := W_s (rfl : (pj lw).1 100 137 = some (.iconst 2, 1, 0)) rfl rfl rfl
theorem w100_138 {x : Int32} {l0 l1 : Slot} : W (pj lw) 100 138 (l0 :: l1 :: .val (.int x) :: L) S k n H Q ↔ W (pj lw) 100 139 (l0 :: l1 :: .val (.int x) :: L) (.int x :: S) k n H Q := W_s (rfl : (pj lw).1 100 138 = some (.iload_n 2, 1, 0)) rfl rfl rfl
theorem w100_139 {x y : Int32} : W (pj lw) 100 139 L (.int y :: .int x :: S) k n H Q ↔ W (pj lw) 100 140 L (.int (x * y) :: S) k n H Q := W_s (rfl : (pj lw).1 100 139 = some (.imul, 1, 0)) rfl rfl rfl
theorem w100_140 : W (pj lw) 100 140 L S k n H Q ↔ W (pj lw) 100 141 L (.int 2 :: S) k n H Q := W_s (rfl : (pj lw).1 100 140 = some (.iconst 2, 1, 0)) rfl rfl rfl
theorem w100_141 {x y : Int32} : W (pj lw) 100 141 L (.int y :: .int x :: S) k n H Q ↔ W (pj lw) 100 142 L (.int (x + y) :: S) k n H Q := W_s (rfl : (pj lw).1 100 141 = some (.iadd, 1, 0)) rfl rfl rfl
theorem w100_142 {x : Int32} {l0 l1 l2 l3 l4 l5 l6 l7 l8 l9 : Slot} : W (pj lw) 100 142 (l0 :: l1 :: l2 :: l3 :: l4 :: l5 :: l6 :: l7 :: l8 :: l9 :: .unset :: L) (.int x :: S) k n H Q ↔ W (pj lw) 100 144 (l0 :: l1 :: l2 :: l3 :: l4 :: l5 :: l6 :: l7 :: l8 :: l9 :: .val (.int x) :: L) S k n H Q := W_ist (rfl : (pj lw).1 100 142 = some (.istore 10, 2, 0)) rfl rfl
theorem w100_144 {x : Int32} {l0 l1 l2 : Slot} : W (pj lw) 100 144 (l0 :: l1 :: l2 :: .val (.int x) :: L) S k n H Q ↔ W (pj lw) 100 145 (l0 :: l1 :: l2 :: .val (.int x) :: L) (.int x :: S) k n H Q := W_s (rfl : (pj lw).1 100 144 = some (.iload_n 3, 1, 0)) rfl rfl rfl
theorem w100_145 {x : Int32} {l0 l1 : Slot} : W (pj lw) 100 145 (l0 :: l1 :: .val (.int x) :: L) S k n H Q ↔ W (pj lw) 100 146 (l0 :: l1 :: .val (.int x) :: L) (.int x :: S) k n H Q := W_s (rfl : (pj lw).1 100 145 = some (.iload_n 2, 1, 0)) rfl rfl rfl
theorem w100_146 {x y : Int32} : W (pj lw) 100 146 L (.int y :: .int x :: S) k n H Q ↔ (if y < x then W (pj lw) 100 149 L S k n H Q else W (pj lw) 100 155 L S k n H Q) := W_icmp_le (rfl : (pj lw).1 100 146 = some (.if_icmp .le 9, 3, 0)) rfl
theorem w100_149 {x : Int32} {l0 l1 l2 : Slot} : W (pj lw) 100 149 (l0 :: l1 :: l2 :: .val (.int x) :: L) S k n H Q ↔ W (pj lw) 100 150 (l0 :: l1 :: l2 :: .val (.int x) :: L) (.int x :: S) k n H Q := W_s (rfl : (pj lw).1 100 149 = some (.iload_n 3, 1, 0)) rfl rfl rfl
theorem w100_150 {x : Int32} {l0 l1 : Slot} : W (pj lw) 100 150 (l0 :: l1 :: .val (.int x) :: L) S k n H Q ↔ W (pj lw) 100 151 (l0 :: l1 :: .val (.int x) :: L) (.int x :: S) k n H Q := W_s (rfl : (pj lw).1 100 150 = some (.iload_n 2, 1, 0)) rfl rfl rfl
theorem w100_151 {x y : Int32} : W (pj lw) 100 151 L (.int y :: .int x :: S) k n H Q ↔ W (pj lw) 100 152 L (.int (x - y) :: S) k n H Q := W_s (rfl : (pj lw).1 100 151 = some (.isub, 1, 0)) rfl rfl rfl
theorem w100_152 : W (pj lw) 100 152 L S k n H Q ↔ W (pj lw) 100 158 L S k n H Q := W_goto (rfl : (pj lw).1 100 152 = some (.goto 6, 3, 0)) rfl
theorem w100_155 {x : Int32} {l0 l1 : Slot} : W (pj lw) 100 155 (l0 :: l1 :: .val (.int x) :: L) S k n H Q ↔ W (pj lw) 100 156 (l0 :: l1 :: .val (.int x) :: L) (.int x :: S) k n H Q := W_s (rfl : (pj lw).1 100 155 = some (.iload_n 2, 1, 0)) rfl rfl rfl
theorem w100_156 {x : Int32} {l0 l1 l2 : Slot} : W (pj lw) 100 156 (l0 :: l1 :: l2 :: .val (.int x) :: L) S k n H Q ↔ W (pj lw) 100 157 (l0 :: l1 :: l2 :: .val (.int x) :: L) (.int x :: S) k n H Q := W_s (rfl : (pj lw).1 100 156 = some (.iload_n 3, 1, 0)) rfl rfl rfl
theorem w100_157 {x y : Int32} : W (pj lw) 100 157 L (.int y :: .int x :: S) k n H Q ↔ W (pj lw) 100 158 L (.int (x - y) :: S) k n H Q := W_s (rfl : (pj lw).1 100 157 = some (.isub, 1, 0)) rfl rfl rfl
theorem w100_158 {x : Int32} {l0 l1 l2 l3 l4 l5 l6 l7 l8 l9 l10 : Slot} : W (pj lw) 100 158 (l0 :: l1 :: l2 :: l3 :: l4 :: l5 :: l6 :: l7 :: l8 :: l9 :: l10 :: .unset :: L) (.int x :: S) k n H Q ↔ W (pj lw) 100 160 (l0 :: l1 :: l2 :: l3 :: l4 :: l5 :: l6 :: l7 :: l8 :: l9 :: l10 :: .val (.int x) :: L) S k n H Q := W_ist (rfl : (pj lw).1 100 158 = some (.istore 11, 2, 0)) rfl rfl
theorem w100_160 {x : Int32} {l0 l1 l2 l3 l4 l5 l6 l7 l8 l9 : Slot} : W (pj lw) 100 160 (l0 :: l1 :: l2 :: l3 :: l4 :: l5 :: l6 :: l7 :: l8 :: l9 :: .val (.int x) :: L) S k n H Q ↔ W (pj lw) 100 162 (l0 :: l1 :: l2 :: l3 :: l4 :: l5 :: l6 :: l7 :: l8 :: l9 :: .val (.int x) :: L) (.int x :: S) k n H Q := W_s (rfl : (pj lw).1 100 160 = some (.iload 10, 2, 0)) rfl rfl rfl
theorem w100_162 : W (pj lw) 100 162 L S k n H Q ↔ W (pj lw) 100 164 L (.int 7 :: S) k n H Q := W_s (rfl : (pj lw).1 100 162 = some (.bipush 7, 2, 0)) rfl rfl rfl
theorem w100_164 {x y : Int32} : W (pj lw) 100 164 L (.int y :: .int x :: S) k n H Q ↔ W (pj lw) 100 165 L (.int (x + y) :: S) k n H Q := W_s (rfl : (pj lw).1 100 164 = some (.iadd, 1, 0)) rfl rfl rfl
theorem w100_165 : W (pj lw) 100 165 L S k n H Q ↔ W (pj lw) 100 166 L (.int 2 :: S) k n H Q := W_s (rfl : (pj lw).1 100 165 = some (.iconst 2, 1, 0)) rfl rfl rfl
theorem w100_166 {x : Int32} {l0 l1 l2 l3 l4 l5 l6 l7 l8 l9 l10 : Slot} : W (pj lw) 100 166 (l0 :: l1 :: l2 :: l3 :: l4 :: l5 :: l6 :: l7 :: l8 :: l9 :: l10 :: .val (.int x) :: L) S k n H Q ↔ W (pj lw) 100 168 (l0 :: l1 :: l2 :: l3 :: l4 :: l5 :: l6 :: l7 :: l8 :: l9 :: l10 :: .val (.int x) :: L) (.int x :: S) k n H Q := W_s (rfl : (pj lw).1 100 166 = some (.iload 11, 2, 0)) rfl rfl rfl
theorem w100_168 {x y : Int32} : W (pj lw) 100 168 L (.int y :: .int x :: S) k n H Q ↔ W (pj lw) 100 169 L (.int (x * y) :: S) k n H Q := W_s (rfl : (pj lw).1 100 168 = some (.imul, 1, 0)) rfl rfl rfl
theorem w100_169 {x y : Int32} : W (pj lw) 100 169 L (.int y :: .int x :: S) k n H Q ↔ W (pj lw) 100 170 L (.int (x + y) :: S) k n H Q := W_s (rfl : (pj lw).1 100 169 = some (.iadd, 1, 0)) rfl rfl rfl
theorem w100_170 {x : Int32} {l0 l1 l2 l3 l4 l5 l6 l7 l8 l9 l10 l11 : Slot} : W (pj lw) 100 170 (l0 :: l1 :: l2 :: l3 :: l4 :: l5 :: l6 :: l7 :: l8 :: l9 :: l10 :: l11 :: .unset :: L) (.int x :: S) k n H Q ↔ W (pj lw) 100 172 (l0 :: l1 :: l2 :: l3 :: l4 :: l5 :: l6 :: l7 :: l8 :: l9 :: l10 :: l11 :: .val (.int x) :: L) S k n H Q := W_ist (rfl : (pj lw).1 100 170 = some (.istore 12, 2, 0)) rfl rfl
theorem w100_172 {x : Int32} {l0 l1 l2 l3 l4 l5 l6 l7 l8 l9 : Slot} : W (pj lw) 100 172 (l0 :: l1 :: l2 :: l3 :: l4 :: l5 :: l6 :: l7 :: l8 :: l9 :: .val (.int x) :: L) S k n H Q ↔ W (pj lw) 100 174 (l0 :: l1 :: l2 :: l3 :: l4 :: l5 :: l6 :: l7 :: l8 :: l9 :: .val (.int x) :: L) (.int x :: S) k n H Q := W_s (rfl : (pj lw).1 100 172 = some (.iload 10, 2, 0)) rfl rfl rfl
theorem w100_174 : W (pj lw) 100 174 L S k n H Q ↔ W (pj lw) 100 176 L (.int 28 :: S) k n H Q := W_s (rfl : (pj lw).1 100 174 = some (.bipush 28, 2, 0)) rfl rfl rfl
theorem w100_176 {x y : Int32} : W (pj lw) 100 176 L (.int y :: .int x :: S) k n H Q ↔ (if x < y then W (pj lw) 100 179 L S k n H Q else W (pj lw) 100 186 L S k n H Q) := W_icmp_ge (rfl : (pj lw).1 100 176 = some (.if_icmp .ge 10, 3, 0)) rfl
theorem w100_179 {x : Int32} {l0 l1 l2 l3 l4 l5 l6 l7 l8 l9 : Slot} : W (pj lw) 100 179 (l0 :: l1 :: l2 :: l3 :: l4 :: l5 :: l6 :: l7 :: l8 :: l9 :: .val (.int x) :: L) S k n H Q ↔ W (pj lw) 100 181 (l0 :: l1 :: l2 :: l3 :: l4 :: l5 :: l6 :: l7 :: l8 :: l9 :: .val (.int x) :: L) (.int x :: S) k n H Q := W_s (rfl : (pj lw).1 100 179 = some (.iload 10, 2, 0)) rfl rfl rfl
theorem w100_181 : W (pj lw) 100 181 L S k n H Q ↔ W (pj lw) 100 182 L (.int 4 :: S) k n H Q := W_s (rfl : (pj lw).1 100 181 = some (.iconst 4, 1, 0)) rfl rfl rfl
theorem w100_182 {x y : Int32} : W (pj lw) 100 182 L (.int y :: .int x :: S) k n H Q ↔ (¬ y = 0 ∧ W (pj lw) 100 183 L (.int (x / y) :: S) k n H Q) := W_idiv (rfl : (pj lw).1 100 182 = some (.idiv, 1, 0))
theorem w100_183 : W (pj lw) 100 183 L S k n H Q ↔ W (pj lw) 100 188 L S k n H Q := W_goto (rfl : (pj lw).1 100 183 = some (.goto 5, 3, 0)) rfl
theorem w100_186 : W (pj lw) 100 186 L S k n H Q ↔ W (pj lw) 100 188 L (.int 7 :: S) k n H Q := W_s (rfl : (pj lw).1 100 186 = some (.bipush 7, 2, 0)) rfl rfl rfl
theorem w100_188 {x : Int32} {l0 l1 l2 l3 l4 l5 l6 l7 l8 l9 l10 l11 l12 : Slot} : W (pj lw) 100 188 (l0 :: l1 :: l2 :: l3 :: l4 :: l5 :: l6 :: l7 :: l8 :: l9 :: l10 :: l11 :: l12 :: .unset :: L) (.int x :: S) k n H Q ↔ W (pj lw) 100 190 (l0 :: l1 :: l2 :: l3 :: l4 :: l5 :: l6 :: l7 :: l8 :: l9 :: l10 :: l11 :: l12 :: .val (.int x) :: L) S k n H Q := W_ist (rfl : (pj lw).1 100 188 = some (.istore 13, 2, 0)) rfl rfl
theorem w100_190 {x : Int32} {l0 l1 l2 l3 l4 l5 l6 l7 l8 l9 l10 l11 : Slot} : W (pj lw) 100 190 (l0 :: l1 :: l2 :: l3 :: l4 :: l5 :: l6 :: l7 :: l8 :: l9 :: l10 :: l11 :: .val (.int x) :: L) S k n H Q ↔ W (pj lw) 100 192 (l0 :: l1 :: l2 :: l3 :: l4 :: l5 :: l6 :: l7 :: l8 :: l9 :: l10 :: l11 :: .val (.int x) :: L) (.int x :: S) k n H Q := W_s (rfl : (pj lw).1 100 190 = some (.iload 12, 2, 0)) rfl rfl rfl
theorem w100_192 : W (pj lw) 100 192 L S k n H Q ↔ W (pj lw) 100 194 L (.int 28 :: S) k n H Q := W_s (rfl : (pj lw).1 100 192 = some (.bipush 28, 2, 0)) rfl rfl rfl
theorem w100_194 {x y : Int32} : W (pj lw) 100 194 L (.int y :: .int x :: S) k n H Q ↔ (if x < y then W (pj lw) 100 197 L S k n H Q else W (pj lw) 100 204 L S k n H Q) := W_icmp_ge (rfl : (pj lw).1 100 194 = some (.if_icmp .ge 10, 3, 0)) rfl
theorem w100_197 {x : Int32} {l0 l1 l2 l3 l4 l5 l6 l7 l8 l9 l10 l11 : Slot} : W (pj lw) 100 197 (l0 :: l1 :: l2 :: l3 :: l4 :: l5 :: l6 :: l7 :: l8 :: l9 :: l10 :: l11 :: .val (.int x) :: L) S k n H Q ↔ W (pj lw) 100 199 (l0 :: l1 :: l2 :: l3 :: l4 :: l5 :: l6 :: l7 :: l8 :: l9 :: l10 :: l11 :: .val (.int x) :: L) (.int x :: S) k n H Q := W_s (rfl : (pj lw).1 100 197 = some (.iload 12, 2, 0)) rfl rfl rfl
theorem w100_199 : W (pj lw) 100 199 L S k n H Q ↔ W (pj lw) 100 200 L (.int 4 :: S) k n H Q := W_s (rfl : (pj lw).1 100 199 = some (.iconst 4, 1, 0)) rfl rfl rfl
theorem w100_200 {x y : Int32} : W (pj lw) 100 200 L (.int y :: .int x :: S) k n H Q ↔ (¬ y = 0 ∧ W (pj lw) 100 201 L (.int (x / y) :: S) k n H Q) := W_idiv (rfl : (pj lw).1 100 200 = some (.idiv, 1, 0))
theorem w100_201 : W (pj lw) 100 201 L S k n H Q ↔ W (pj lw) 100 206 L S k n H Q := W_goto (rfl : (pj lw).1 100 201 = some (.goto 5, 3, 0)) rfl
theorem w100_204 : W (pj lw) 100 204 L S k n H Q ↔ W (pj lw) 100 206 L (.int 7 :: S) k n H Q := W_s (rfl : (pj lw).1 100 204 = some (.bipush 7, 2, 0)) rfl rfl rfl
theorem w100_206 {x : Int32} {l0 l1 l2 l3 l4 l5 l6 l7 l8 l9 l10 l11 l12 l13 : Slot} : W (pj lw) 100 206 (l0 :: l1 :: l2 :: l3 :: l4 :: l5 :: l6 :: l7 :: l8 :: l9 :: l10 :: l11 :: l12 :: l13 :: .unset :: L) (.int x :: S) k n H Q ↔ W (pj lw) 100 208 (l0 :: l1 :: l2 :: l3 :: l4 :: l5 :: l6 :: l7 :: l8 :: l9 :: l10 :: l11 :: l12 :: l13 :: .val (.int x) :: L) S k n H Q := W_ist (rfl : (pj lw).1 100 206 = some (.istore 14, 2, 0)) rfl rfl
theorem w100_208 {x : Nat} {l0 l1 l2 l3 : Slot} : W (pj lw) 100 208 (l0 :: l1 :: l2 :: l3 :: .val (.ref x) :: L) S k n H Q ↔ W (pj lw) 100 210 (l0 :: l1 :: l2 :: l3 :: .val (.ref x) :: L) (.ref x :: S) k n H Q := W_s (rfl : (pj lw).1 100 208 = some (.aload 4, 2, 0)) rfl rfl rfl
theorem w100_210 {a : Nat} : W (pj lw) 100 210 L (.ref a :: S) k n H Q ↔ ((isO H a = true ∧ cs S + (1 + 11) + 0 ≤ 272) ∧ Cl (pj lw) 5 [.ref a] H (fun v H => W (pj lw) 100 213 L (v.toList ++ S) k n H Q)) := W_inst (as := []) (rfl : (pj lw).1 100 210 = some (.invokevirtual 24, 3, 5)) rfl rfl rfl (Nat.le_of_ble_eq_true rfl) (Nat.le_of_ble_eq_true rfl) ⟨rfl, rfl⟩
theorem w100_213 {x : Int32} {l0 l1 l2 l3 l4 l5 l6 l7 l8 l9 l10 l11 l12 l13 l14 : Slot} : W (pj lw) 100 213 (l0 :: l1 :: l2 :: l3 :: l4 :: l5 :: l6 :: l7 :: l8 :: l9 :: l10 :: l11 :: l12 :: l13 :: l14 :: .unset :: L) (.int x :: S) k n H Q ↔ W (pj lw) 100 215 (l0 :: l1 :: l2 :: l3 :: l4 :: l5 :: l6 :: l7 :: l8 :: l9 :: l10 :: l11 :: l12 :: l13 :: l14 :: .val (.int x) :: L) S k n H Q := W_ist (rfl : (pj lw).1 100 213 = some (.istore 15, 2, 0)) rfl rfl
theorem w100_215 {x : Nat} {l0 l1 l2 l3 : Slot} : W (pj lw) 100 215 (l0 :: l1 :: l2 :: l3 :: .val (.ref x) :: L) S k n H Q ↔ W (pj lw) 100 217 (l0 :: l1 :: l2 :: l3 :: .val (.ref x) :: L) (.ref x :: S) k n H Q := W_s (rfl : (pj lw).1 100 215 = some (.aload 4, 2, 0)) rfl rfl rfl
theorem w100_217 {a : Nat} : W (pj lw) 100 217 L (.ref a :: S) k n H Q ↔ ((isO H a = true ∧ cs S + (3 + 11) + 0 ≤ 272) ∧ Cl (pj lw) 7 [.ref a] H (fun v H => W (pj lw) 100 220 L (v.toList ++ S) k n H Q)) := W_inst (as := []) (rfl : (pj lw).1 100 217 = some (.invokevirtual 27, 3, 7)) rfl rfl rfl (Nat.le_of_ble_eq_true rfl) (Nat.le_of_ble_eq_true rfl) ⟨rfl, rfl⟩
theorem w100_220 {x : Int32} {l0 l1 l2 l3 l4 l5 l6 l7 l8 l9 l10 l11 l12 l13 l14 l15 : Slot} : W (pj lw) 100 220 (l0 :: l1 :: l2 :: l3 :: l4 :: l5 :: l6 :: l7 :: l8 :: l9 :: l10 :: l11 :: l12 :: l13 :: l14 :: l15 :: .unset :: L) (.int x :: S) k n H Q ↔ W (pj lw) 100 222 (l0 :: l1 :: l2 :: l3 :: l4 :: l5 :: l6 :: l7 :: l8 :: l9 :: l10 :: l11 :: l12 :: l13 :: l14 :: l15 :: .val (.int x) :: L) S k n H Q := W_ist (rfl : (pj lw).1 100 220 = some (.istore 16, 2, 0)) rfl rfl
theorem w100_222 {x : Nat} {l0 l1 l2 l3 : Slot} : W (pj lw) 100 222 (l0 :: l1 :: l2 :: l3 :: .val (.ref x) :: L) S k n H Q ↔ W (pj lw) 100 224 (l0 :: l1 :: l2 :: l3 :: .val (.ref x) :: L) (.ref x :: S) k n H Q := W_s (rfl : (pj lw).1 100 222 = some (.aload 4, 2, 0)) rfl rfl rfl
theorem w100_224 : W (pj lw) 100 224 L S k n H Q ↔ W (pj lw) 100 225 L (.int 0 :: S) k n H Q := W_s (rfl : (pj lw).1 100 224 = some (.iconst 0, 1, 0)) rfl rfl rfl
theorem w100_225 : W (pj lw) 100 225 L S k n H Q ↔ W (pj lw) 100 226 L (.int 0 :: S) k n H Q := W_s (rfl : (pj lw).1 100 225 = some (.iconst 0, 1, 0)) rfl rfl rfl
theorem w100_226 {a : Nat} {x0 : Int32} {x1 : Int32} : W (pj lw) 100 226 L (.int x1 :: .int x0 :: .ref a :: S) k n H Q ↔ ((isO H a = true ∧ cs S + (3 + 11) + 0 ≤ 272) ∧ Cl (pj lw) 9 [.ref a, .int x0, .int x1] H (fun v H => W (pj lw) 100 229 L (v.toList ++ S) k n H Q)) := W_inst (as := [.int x0, .int x1]) (rfl : (pj lw).1 100 226 = some (.invokevirtual 30, 3, 9)) rfl rfl rfl (Nat.le_of_ble_eq_true rfl) (Nat.le_of_ble_eq_true rfl) ⟨rfl, rfl⟩
theorem w100_229 {x : Int32} {l0 l1 l2 l3 l4 l5 l6 l7 l8 l9 l10 l11 l12 l13 l14 l15 l16 : Slot} : W (pj lw) 100 229 (l0 :: l1 :: l2 :: l3 :: l4 :: l5 :: l6 :: l7 :: l8 :: l9 :: l10 :: l11 :: l12 :: l13 :: l14 :: l15 :: l16 :: .unset :: L) (.int x :: S) k n H Q ↔ W (pj lw) 100 231 (l0 :: l1 :: l2 :: l3 :: l4 :: l5 :: l6 :: l7 :: l8 :: l9 :: l10 :: l11 :: l12 :: l13 :: l14 :: l15 :: l16 :: .val (.int x) :: L) S k n H Q := W_ist (rfl : (pj lw).1 100 229 = some (.istore 17, 2, 0)) rfl rfl
theorem w100_231 {x : Nat} {l0 l1 l2 l3 : Slot} : W (pj lw) 100 231 (l0 :: l1 :: l2 :: l3 :: .val (.ref x) :: L) S k n H Q ↔ W (pj lw) 100 233 (l0 :: l1 :: l2 :: l3 :: .val (.ref x) :: L) (.ref x :: S) k n H Q := W_s (rfl : (pj lw).1 100 231 = some (.aload 4, 2, 0)) rfl rfl rfl
theorem w100_233 : W (pj lw) 100 233 L S k n H Q ↔ W (pj lw) 100 234 L (.int 0 :: S) k n H Q := W_s (rfl : (pj lw).1 100 233 = some (.iconst 0, 1, 0)) rfl rfl rfl
theorem w100_234 : W (pj lw) 100 234 L S k n H Q ↔ W (pj lw) 100 235 L (.int 4 :: S) k n H Q := W_s (rfl : (pj lw).1 100 234 = some (.iconst 4, 1, 0)) rfl rfl rfl
theorem w100_235 {a : Nat} {x0 : Int32} {x1 : Int32} : W (pj lw) 100 235 L (.int x1 :: .int x0 :: .ref a :: S) k n H Q ↔ ((isO H a = true ∧ cs S + (3 + 11) + 0 ≤ 272) ∧ Cl (pj lw) 9 [.ref a, .int x0, .int x1] H (fun v H => W (pj lw) 100 238 L (v.toList ++ S) k n H Q)) := W_inst (as := [.int x0, .int x1]) (rfl : (pj lw).1 100 235 = some (.invokevirtual 30, 3, 9)) rfl rfl rfl (Nat.le_of_ble_eq_true rfl) (Nat.le_of_ble_eq_true rfl) ⟨rfl, rfl⟩
theorem w100_238 {x : Int32} {l0 l1 l2 l3 l4 l5 l6 l7 l8 l9 l10 l11 l12 l13 l14 l15 l16 l17 : Slot} : W (pj lw) 100 238 (l0 :: l1 :: l2 :: l3 :: l4 :: l5 :: l6 :: l7 :: l8 :: l9 :: l10 :: l11 :: l12 :: l13 :: l14 :: l15 :: l16 :: l17 :: .unset :: L) (.int x :: S) k n H Q ↔ W (pj lw) 100 240 (l0 :: l1 :: l2 :: l3 :: l4 :: l5 :: l6 :: l7 :: l8 :: l9 :: l10 :: l11 :: l12 :: l13 :: l14 :: l15 :: l16 :: l17 :: .val (.int x) :: L) S k n H Q := W_ist (rfl : (pj lw).1 100 238 = some (.istore 18, 2, 0)) rfl rfl
theorem w100_240 {x : Nat} {l0 l1 l2 l3 : Slot} : W (pj lw) 100 240 (l0 :: l1 :: l2 :: l3 :: .val (.ref x) :: L) S k n H Q ↔ W (pj lw) 100 242 (l0 :: l1 :: l2 :: l3 :: .val (.ref x) :: L) (.ref x :: S) k n H Q := W_s (rfl : (pj lw).1 100 240 = some (.aload 4, 2, 0)) rfl rfl rfl
theorem w100_242 : W (pj lw) 100 242 L S k n H Q ↔ W (pj lw) 100 243 L (.int 0 :: S) k n H Q := W_s (rfl : (pj lw).1 100 242 = some (.iconst 0, 1, 0)) rfl rfl rfl
theorem w100_243 : W (pj lw) 100 243 L S k n H Q ↔ W (pj lw) 100 244 L (.int 5 :: S) k n H Q := W_s (rfl : (pj lw).1 100 243 = some (.iconst 5, 1, 0)) rfl rfl rfl
theorem w100_244 {a : Nat} {x0 : Int32} {x1 : Int32} : W (pj lw) 100 244 L (.int x1 :: .int x0 :: .ref a :: S) k n H Q ↔ ((isO H a = true ∧ cs S + (3 + 11) + 0 ≤ 272) ∧ Cl (pj lw) 9 [.ref a, .int x0, .int x1] H (fun v H => W (pj lw) 100 247 L (v.toList ++ S) k n H Q)) := W_inst (as := [.int x0, .int x1]) (rfl : (pj lw).1 100 244 = some (.invokevirtual 30, 3, 9)) rfl rfl rfl (Nat.le_of_ble_eq_true rfl) (Nat.le_of_ble_eq_true rfl) ⟨rfl, rfl⟩
theorem w100_247 {x : Int32} {l0 l1 l2 l3 l4 l5 l6 l7 l8 l9 l10 l11 l12 l13 l14 l15 l16 l17 l18 : Slot} : W (pj lw) 100 247 (l0 :: l1 :: l2 :: l3 :: l4 :: l5 :: l6 :: l7 :: l8 :: l9 :: l10 :: l11 :: l12 :: l13 :: l14 :: l15 :: l16 :: l17 :: l18 :: .unset :: L) (.int x :: S) k n H Q ↔ W (pj lw) 100 249 (l0 :: l1 :: l2 :: l3 :: l4 :: l5 :: l6 :: l7 :: l8 :: l9 :: l10 :: l11 :: l12 :: l13 :: l14 :: l15 :: l16 :: l17 :: l18 :: .val (.int x) :: L) S k n H Q := W_ist (rfl : (pj lw).1 100 247 = some (.istore 19, 2, 0)) rfl rfl
theorem w100_249 {x : Nat} {l0 l1 l2 l3 : Slot} : W (pj lw) 100 249 (l0 :: l1 :: l2 :: l3 :: .val (.ref x) :: L) S k n H Q ↔ W (pj lw) 100 251 (l0 :: l1 :: l2 :: l3 :: .val (.ref x) :: L) (.ref x :: S) k n H Q := W_s (rfl : (pj lw).1 100 249 = some (.aload 4, 2, 0)) rfl rfl rfl
theorem w100_251 : W (pj lw) 100 251 L S k n H Q ↔ W (pj lw) 100 252 L (.int 0 :: S) k n H Q := W_s (rfl : (pj lw).1 100 251 = some (.iconst 0, 1, 0)) rfl rfl rfl
theorem w100_252 : W (pj lw) 100 252 L S k n H Q ↔ W (pj lw) 100 254 L (.int 6 :: S) k n H Q := W_s (rfl : (pj lw).1 100 252 = some (.bipush 6, 2, 0)) rfl rfl rfl
theorem w100_254 {a : Nat} {x0 : Int32} {x1 : Int32} : W (pj lw) 100 254 L (.int x1 :: .int x0 :: .ref a :: S) k n H Q ↔ ((isO H a = true ∧ cs S + (3 + 11) + 0 ≤ 272) ∧ Cl (pj lw) 9 [.ref a, .int x0, .int x1] H (fun v H => W (pj lw) 100 257 L (v.toList ++ S) k n H Q)) := W_inst (as := [.int x0, .int x1]) (rfl : (pj lw).1 100 254 = some (.invokevirtual 30, 3, 9)) rfl rfl rfl (Nat.le_of_ble_eq_true rfl) (Nat.le_of_ble_eq_true rfl) ⟨rfl, rfl⟩
theorem w100_257 {x : Int32} {l0 l1 l2 l3 l4 l5 l6 l7 l8 l9 l10 l11 l12 l13 l14 l15 l16 l17 l18 l19 : Slot} : W (pj lw) 100 257 (l0 :: l1 :: l2 :: l3 :: l4 :: l5 :: l6 :: l7 :: l8 :: l9 :: l10 :: l11 :: l12 :: l13 :: l14 :: l15 :: l16 :: l17 :: l18 :: l19 :: .unset :: L) (.int x :: S) k n H Q ↔ W (pj lw) 100 259 (l0 :: l1 :: l2 :: l3 :: l4 :: l5 :: l6 :: l7 :: l8 :: l9 :: l10 :: l11 :: l12 :: l13 :: l14 :: l15 :: l16 :: l17 :: l18 :: l19 :: .val (.int x) :: L) S k n H Q := W_ist (rfl : (pj lw).1 100 257 = some (.istore 20, 2, 0)) rfl rfl
theorem w100_259 {x : Nat} {l0 l1 l2 l3 : Slot} : W (pj lw) 100 259 (l0 :: l1 :: l2 :: l3 :: .val (.ref x) :: L) S k n H Q ↔ W (pj lw) 100 261 (l0 :: l1 :: l2 :: l3 :: .val (.ref x) :: L) (.ref x :: S) k n H Q := W_s (rfl : (pj lw).1 100 259 = some (.aload 4, 2, 0)) rfl rfl rfl
theorem w100_261 {a : Nat} : W (pj lw) 100 261 L (.ref a :: S) k n H Q ↔ ((isO H a = true ∧ cs S + (3 + 11) + 0 ≤ 272) ∧ Cl (pj lw) 12 [.ref a] H (fun v H => W (pj lw) 100 264 L (v.toList ++ S) k n H Q)) := W_inst (as := []) (rfl : (pj lw).1 100 261 = some (.invokevirtual 34, 3, 12)) rfl rfl rfl (Nat.le_of_ble_eq_true rfl) (Nat.le_of_ble_eq_true rfl) ⟨rfl, rfl⟩
theorem w100_264 {x : Int32} {l0 l1 l2 l3 l4 l5 l6 l7 l8 l9 l10 l11 l12 l13 l14 l15 l16 l17 l18 l19 l20 : Slot} : W (pj lw) 100 264 (l0 :: l1 :: l2 :: l3 :: l4 :: l5 :: l6 :: l7 :: l8 :: l9 :: l10 :: l11 :: l12 :: l13 :: l14 :: l15 :: l16 :: l17 :: l18 :: l19 :: l20 :: .unset :: L) (.int x :: S) k n H Q ↔ W (pj lw) 100 266 (l0 :: l1 :: l2 :: l3 :: l4 :: l5 :: l6 :: l7 :: l8 :: l9 :: l10 :: l11 :: l12 :: l13 :: l14 :: l15 :: l16 :: l17 :: l18 :: l19 :: l20 :: .val (.int x) :: L) S k n H Q := W_ist (rfl : (pj lw).1 100 264 = some (.istore 21, 2, 0)) rfl rfl
theorem w100_266 {x : Nat} {l0 l1 l2 l3 : Slot} : W (pj lw) 100 266 (l0 :: l1 :: l2 :: l3 :: .val (.ref x) :: L) S k n H Q ↔ W (pj lw) 100 268 (l0 :: l1 :: l2 :: l3 :: .val (.ref x) :: L) (.ref x :: S) k n H Q := W_s (rfl : (pj lw).1 100 266 = some (.aload 4, 2, 0)) rfl rfl rfl
theorem w100_268 {a : Nat} : W (pj lw) 100 268 L (.ref a :: S) k n H Q ↔ ((isO H a = true ∧ cs S + (3 + 11) + 0 ≤ 272) ∧ Cl (pj lw) 13 [.ref a] H (fun v H => W (pj lw) 100 271 L (v.toList ++ S) k n H Q)) := W_inst (as := []) (rfl : (pj lw).1 100 268 = some (.invokevirtual 37, 3, 13)) rfl rfl rfl (Nat.le_of_ble_eq_true rfl) (Nat.le_of_ble_eq_true rfl) ⟨rfl, rfl⟩
theorem w100_271 {x : Int32} {l0 l1 l2 l3 l4 l5 l6 l7 l8 l9 l10 l11 l12 l13 l14 l15 l16 l17 l18 l19 l20 l21 : Slot} : W (pj lw) 100 271 (l0 :: l1 :: l2 :: l3 :: l4 :: l5 :: l6 :: l7 :: l8 :: l9 :: l10 :: l11 :: l12 :: l13 :: l14 :: l15 :: l16 :: l17 :: l18 :: l19 :: l20 :: l21 :: .unset :: L) (.int x :: S) k n H Q ↔ W (pj lw) 100 273 (l0 :: l1 :: l2 :: l3 :: l4 :: l5 :: l6 :: l7 :: l8 :: l9 :: l10 :: l11 :: l12 :: l13 :: l14 :: l15 :: l16 :: l17 :: l18 :: l19 :: l20 :: l21 :: .val (.int x) :: L) S k n H Q := W_ist (rfl : (pj lw).1 100 271 = some (.istore 22, 2, 0)) rfl rfl
theorem w100_273 {x : Nat} {l0 l1 l2 l3 : Slot} : W (pj lw) 100 273 (l0 :: l1 :: l2 :: l3 :: .val (.ref x) :: L) S k n H Q ↔ W (pj lw) 100 275 (l0 :: l1 :: l2 :: l3 :: .val (.ref x) :: L) (.ref x :: S) k n H Q := W_s (rfl : (pj lw).1 100 273 = some (.aload 4, 2, 0)) rfl rfl rfl
theorem w100_275 : W (pj lw) 100 275 L S k n H Q ↔ W (pj lw) 100 276 L (.int 0 :: S) k n H Q := W_s (rfl : (pj lw).1 100 275 = some (.iconst 0, 1, 0)) rfl rfl rfl
theorem w100_276 {x : Int32} {l0 l1 l2 l3 l4 l5 l6 l7 l8 l9 l10 l11 l12 : Slot} : W (pj lw) 100 276 (l0 :: l1 :: l2 :: l3 :: l4 :: l5 :: l6 :: l7 :: l8 :: l9 :: l10 :: l11 :: l12 :: .val (.int x) :: L) S k n H Q ↔ W (pj lw) 100 278 (l0 :: l1 :: l2 :: l3 :: l4 :: l5 :: l6 :: l7 :: l8 :: l9 :: l10 :: l11 :: l12 :: .val (.int x) :: L) (.int x :: S) k n H Q := W_s (rfl : (pj lw).1 100 276 = some (.iload 13, 2, 0)) rfl rfl rfl
theorem w100_278 {a : Nat} {x0 : Int32} {x1 : Int32} : W (pj lw) 100 278 L (.int x1 :: .int x0 :: .ref a :: S) k n H Q ↔ ((isO H a = true ∧ cs S + (7 + 11) + 13 ≤ 272) ∧ Cl (pj lw) 14 [.ref a, .int x0, .int x1] H (fun v H => W (pj lw) 100 281 L (v.toList ++ S) k n H Q)) := W_inst (as := [.int x0, .int x1]) (rfl : (pj lw).1 100 278 = some (.invokevirtual 40, 3, 14)) rfl rfl rfl (Nat.le_of_ble_eq_true rfl) (Nat.le_of_ble_eq_true rfl) ⟨rfl, rfl⟩
theorem w100_281 {x : Int32} {l0 l1 l2 l3 l4 l5 l6 l7 l8 l9 l10 l11 l12 l13 l14 l15 l16 l17 l18 l19 l20 l21 l22 : Slot} : W (pj lw) 100 281 (l0 :: l1 :: l2 :: l3 :: l4 :: l5 :: l6 :: l7 :: l8 :: l9 :: l10 :: l11 :: l12 :: l13 :: l14 :: l15 :: l16 :: l17 :: l18 :: l19 :: l20 :: l21 :: l22 :: .unset :: L) (.int x :: S) k n H Q ↔ W (pj lw) 100 283 (l0 :: l1 :: l2 :: l3 :: l4 :: l5 :: l6 :: l7 :: l8 :: l9 :: l10 :: l11 :: l12 :: l13 :: l14 :: l15 :: l16 :: l17 :: l18 :: l19 :: l20 :: l21 :: l22 :: .val (.int x) :: L) S k n H Q := W_ist (rfl : (pj lw).1 100 281 = some (.istore 23, 2, 0)) rfl rfl
theorem w100_283 {x : Nat} {l0 l1 l2 l3 : Slot} : W (pj lw) 100 283 (l0 :: l1 :: l2 :: l3 :: .val (.ref x) :: L) S k n H Q ↔ W (pj lw) 100 285 (l0 :: l1 :: l2 :: l3 :: .val (.ref x) :: L) (.ref x :: S) k n H Q := W_s (rfl : (pj lw).1 100 283 = some (.aload 4, 2, 0)) rfl rfl rfl
theorem w100_285 : W (pj lw) 100 285 L S k n H Q ↔ W (pj lw) 100 286 L (.int 1 :: S) k n H Q := W_s (rfl : (pj lw).1 100 285 = some (.iconst 1, 1, 0)) rfl rfl rfl
theorem w100_286 {x : Int32} {l0 l1 l2 l3 l4 l5 l6 l7 l8 l9 l10 l11 l12 l13 : Slot} : W (pj lw) 100 286 (l0 :: l1 :: l2 :: l3 :: l4 :: l5 :: l6 :: l7 :: l8 :: l9 :: l10 :: l11 :: l12 :: l13 :: .val (.int x) :: L) S k n H Q ↔ W (pj lw) 100 288 (l0 :: l1 :: l2 :: l3 :: l4 :: l5 :: l6 :: l7 :: l8 :: l9 :: l10 :: l11 :: l12 :: l13 :: .val (.int x) :: L) (.int x :: S) k n H Q := W_s (rfl : (pj lw).1 100 286 = some (.iload 14, 2, 0)) rfl rfl rfl
theorem w100_288 {a : Nat} {x0 : Int32} {x1 : Int32} : W (pj lw) 100 288 L (.int x1 :: .int x0 :: .ref a :: S) k n H Q ↔ ((isO H a = true ∧ cs S + (7 + 11) + 13 ≤ 272) ∧ Cl (pj lw) 14 [.ref a, .int x0, .int x1] H (fun v H => W (pj lw) 100 291 L (v.toList ++ S) k n H Q)) := W_inst (as := [.int x0, .int x1]) (rfl : (pj lw).1 100 288 = some (.invokevirtual 40, 3, 14)) rfl rfl rfl (Nat.le_of_ble_eq_true rfl) (Nat.le_of_ble_eq_true rfl) ⟨rfl, rfl⟩
theorem w100_291 {x : Int32} {l0 l1 l2 l3 l4 l5 l6 l7 l8 l9 l10 l11 l12 l13 l14 l15 l16 l17 l18 l19 l20 l21 l22 l23 : Slot} : W (pj lw) 100 291 (l0 :: l1 :: l2 :: l3 :: l4 :: l5 :: l6 :: l7 :: l8 :: l9 :: l10 :: l11 :: l12 :: l13 :: l14 :: l15 :: l16 :: l17 :: l18 :: l19 :: l20 :: l21 :: l22 :: l23 :: .unset :: L) (.int x :: S) k n H Q ↔ W (pj lw) 100 293 (l0 :: l1 :: l2 :: l3 :: l4 :: l5 :: l6 :: l7 :: l8 :: l9 :: l10 :: l11 :: l12 :: l13 :: l14 :: l15 :: l16 :: l17 :: l18 :: l19 :: l20 :: l21 :: l22 :: l23 :: .val (.int x) :: L) S k n H Q := W_ist (rfl : (pj lw).1 100 291 = some (.istore 24, 2, 0)) rfl rfl
theorem w100_293 {x : Nat} {l0 l1 l2 l3 : Slot} : W (pj lw) 100 293 (l0 :: l1 :: l2 :: l3 :: .val (.ref x) :: L) S k n H Q ↔ W (pj lw) 100 295 (l0 :: l1 :: l2 :: l3 :: .val (.ref x) :: L) (.ref x :: S) k n H Q := W_s (rfl : (pj lw).1 100 293 = some (.aload 4, 2, 0)) rfl rfl rfl
theorem w100_295 : W (pj lw) 100 295 L S k n H Q ↔ W (pj lw) 100 296 L (.int 0 :: S) k n H Q := W_s (rfl : (pj lw).1 100 295 = some (.iconst 0, 1, 0)) rfl rfl rfl
theorem w100_296 : W (pj lw) 100 296 L S k n H Q ↔ W (pj lw) 100 297 L (.int 0 :: S) k n H Q := W_s (rfl : (pj lw).1 100 296 = some (.iconst 0, 1, 0)) rfl rfl rfl
theorem w100_297 {a : Nat} {x0 : Int32} {x1 : Int32} : W (pj lw) 100 297 L (.int x1 :: .int x0 :: .ref a :: S) k n H Q ↔ ((isO H a = true ∧ cs S + (3 + 11) + 0 ≤ 272) ∧ Cl (pj lw) 8 [.ref a, .int x0, .int x1] H (fun v H => W (pj lw) 100 300 L (v.toList ++ S) k n H Q)) := W_inst (as := [.int x0, .int x1]) (rfl : (pj lw).1 100 297 = some (.invokevirtual 43, 3, 8)) rfl rfl rfl (Nat.le_of_ble_eq_true rfl) (Nat.le_of_ble_eq_true rfl) ⟨rfl, rfl⟩
theorem w100_300 {x : Int32} {l0 l1 l2 l3 l4 l5 l6 l7 l8 l9 l10 l11 l12 l13 l14 l15 l16 l17 l18 l19 l20 l21 l22 l23 l24 : Slot} : W (pj lw) 100 300 (l0 :: l1 :: l2 :: l3 :: l4 :: l5 :: l6 :: l7 :: l8 :: l9 :: l10 :: l11 :: l12 :: l13 :: l14 :: l15 :: l16 :: l17 :: l18 :: l19 :: l20 :: l21 :: l22 :: l23 :: l24 :: .unset :: L) (.int x :: S) k n H Q ↔ W (pj lw) 100 302 (l0 :: l1 :: l2 :: l3 :: l4 :: l5 :: l6 :: l7 :: l8 :: l9 :: l10 :: l11 :: l12 :: l13 :: l14 :: l15 :: l16 :: l17 :: l18 :: l19 :: l20 :: l21 :: l22 :: l23 :: l24 :: .val (.int x) :: L) S k n H Q := W_ist (rfl : (pj lw).1 100 300 = some (.istore 25, 2, 0)) rfl rfl
theorem w100_302 {x : Nat} {l0 l1 l2 l3 : Slot} : W (pj lw) 100 302 (l0 :: l1 :: l2 :: l3 :: .val (.ref x) :: L) S k n H Q ↔ W (pj lw) 100 304 (l0 :: l1 :: l2 :: l3 :: .val (.ref x) :: L) (.ref x :: S) k n H Q := W_s (rfl : (pj lw).1 100 302 = some (.aload 4, 2, 0)) rfl rfl rfl
theorem w100_304 : W (pj lw) 100 304 L S k n H Q ↔ W (pj lw) 100 305 L (.int 0 :: S) k n H Q := W_s (rfl : (pj lw).1 100 304 = some (.iconst 0, 1, 0)) rfl rfl rfl
theorem w100_305 : W (pj lw) 100 305 L S k n H Q ↔ W (pj lw) 100 306 L (.int 1 :: S) k n H Q := W_s (rfl : (pj lw).1 100 305 = some (.iconst 1, 1, 0)) rfl rfl rfl
theorem w100_306 {a : Nat} {x0 : Int32} {x1 : Int32} : W (pj lw) 100 306 L (.int x1 :: .int x0 :: .ref a :: S) k n H Q ↔ ((isO H a = true ∧ cs S + (3 + 11) + 0 ≤ 272) ∧ Cl (pj lw) 8 [.ref a, .int x0, .int x1] H (fun v H => W (pj lw) 100 309 L (v.toList ++ S) k n H Q)) := W_inst (as := [.int x0, .int x1]) (rfl : (pj lw).1 100 306 = some (.invokevirtual 43, 3, 8)) rfl rfl rfl (Nat.le_of_ble_eq_true rfl) (Nat.le_of_ble_eq_true rfl) ⟨rfl, rfl⟩
theorem w100_309 {x : Int32} {l0 l1 l2 l3 l4 l5 l6 l7 l8 l9 l10 l11 l12 l13 l14 l15 l16 l17 l18 l19 l20 l21 l22 l23 l24 l25 : Slot} : W (pj lw) 100 309 (l0 :: l1 :: l2 :: l3 :: l4 :: l5 :: l6 :: l7 :: l8 :: l9 :: l10 :: l11 :: l12 :: l13 :: l14 :: l15 :: l16 :: l17 :: l18 :: l19 :: l20 :: l21 :: l22 :: l23 :: l24 :: l25 :: .unset :: L) (.int x :: S) k n H Q ↔ W (pj lw) 100 311 (l0 :: l1 :: l2 :: l3 :: l4 :: l5 :: l6 :: l7 :: l8 :: l9 :: l10 :: l11 :: l12 :: l13 :: l14 :: l15 :: l16 :: l17 :: l18 :: l19 :: l20 :: l21 :: l22 :: l23 :: l24 :: l25 :: .val (.int x) :: L) S k n H Q := W_ist (rfl : (pj lw).1 100 309 = some (.istore 26, 2, 0)) rfl rfl
theorem w100_311 {x : Nat} {l0 l1 l2 l3 : Slot} : W (pj lw) 100 311 (l0 :: l1 :: l2 :: l3 :: .val (.ref x) :: L) S k n H Q ↔ W (pj lw) 100 313 (l0 :: l1 :: l2 :: l3 :: .val (.ref x) :: L) (.ref x :: S) k n H Q := W_s (rfl : (pj lw).1 100 311 = some (.aload 4, 2, 0)) rfl rfl rfl
theorem w100_313 : W (pj lw) 100 313 L S k n H Q ↔ W (pj lw) 100 314 L (.int 0 :: S) k n H Q := W_s (rfl : (pj lw).1 100 313 = some (.iconst 0, 1, 0)) rfl rfl rfl
theorem w100_314 : W (pj lw) 100 314 L S k n H Q ↔ W (pj lw) 100 315 L (.int 2 :: S) k n H Q := W_s (rfl : (pj lw).1 100 314 = some (.iconst 2, 1, 0)) rfl rfl rfl
theorem w100_315 {a : Nat} {x0 : Int32} {x1 : Int32} : W (pj lw) 100 315 L (.int x1 :: .int x0 :: .ref a :: S) k n H Q ↔ ((isO H a = true ∧ cs S + (3 + 11) + 0 ≤ 272) ∧ Cl (pj lw) 8 [.ref a, .int x0, .int x1] H (fun v H => W (pj lw) 100 318 L (v.toList ++ S) k n H Q)) := W_inst (as := [.int x0, .int x1]) (rfl : (pj lw).1 100 315 = some (.invokevirtual 43, 3, 8)) rfl rfl rfl (Nat.le_of_ble_eq_true rfl) (Nat.le_of_ble_eq_true rfl) ⟨rfl, rfl⟩
theorem w100_318 {x : Int32} {l0 l1 l2 l3 l4 l5 l6 l7 l8 l9 l10 l11 l12 l13 l14 l15 l16 l17 l18 l19 l20 l21 l22 l23 l24 l25 l26 : Slot} : W (pj lw) 100 318 (l0 :: l1 :: l2 :: l3 :: l4 :: l5 :: l6 :: l7 :: l8 :: l9 :: l10 :: l11 :: l12 :: l13 :: l14 :: l15 :: l16 :: l17 :: l18 :: l19 :: l20 :: l21 :: l22 :: l23 :: l24 :: l25 :: l26 :: .unset :: L) (.int x :: S) k n H Q ↔ W (pj lw) 100 320 (l0 :: l1 :: l2 :: l3 :: l4 :: l5 :: l6 :: l7 :: l8 :: l9 :: l10 :: l11 :: l12 :: l13 :: l14 :: l15 :: l16 :: l17 :: l18 :: l19 :: l20 :: l21 :: l22 :: l23 :: l24 :: l25 :: l26 :: .val (.int x) :: L) S k n H Q := W_ist (rfl : (pj lw).1 100 318 = some (.istore 27, 2, 0)) rfl rfl
theorem w100_320 {x : Nat} {l0 l1 l2 l3 : Slot} : W (pj lw) 100 320 (l0 :: l1 :: l2 :: l3 :: .val (.ref x) :: L) S k n H Q ↔ W (pj lw) 100 322 (l0 :: l1 :: l2 :: l3 :: .val (.ref x) :: L) (.ref x :: S) k n H Q := W_s (rfl : (pj lw).1 100 320 = some (.aload 4, 2, 0)) rfl rfl rfl
theorem w100_322 : W (pj lw) 100 322 L S k n H Q ↔ W (pj lw) 100 323 L (.int 0 :: S) k n H Q := W_s (rfl : (pj lw).1 100 322 = some (.iconst 0, 1, 0)) rfl rfl rfl
theorem w100_323 : W (pj lw) 100 323 L S k n H Q ↔ W (pj lw) 100 324 L (.int 3 :: S) k n H Q := W_s (rfl : (pj lw).1 100 323 = some (.iconst 3, 1, 0)) rfl rfl rfl
theorem w100_324 {a : Nat} {x0 : Int32} {x1 : Int32} : W (pj lw) 100 324 L (.int x1 :: .int x0 :: .ref a :: S) k n H Q ↔ ((isO H a = true ∧ cs S + (3 + 11) + 0 ≤ 272) ∧ Cl (pj lw) 8 [.ref a, .int x0, .int x1] H (fun v H => W (pj lw) 100 327 L (v.toList ++ S) k n H Q)) := W_inst (as := [.int x0, .int x1]) (rfl : (pj lw).1 100 324 = some (.invokevirtual 43, 3, 8)) rfl rfl rfl (Nat.le_of_ble_eq_true rfl) (Nat.le_of_ble_eq_true rfl) ⟨rfl, rfl⟩
theorem w100_327 {x : Int32} {l0 l1 l2 l3 l4 l5 l6 l7 l8 l9 l10 l11 l12 l13 l14 l15 l16 l17 l18 l19 l20 l21 l22 l23 l24 l25 l26 l27 : Slot} : W (pj lw) 100 327 (l0 :: l1 :: l2 :: l3 :: l4 :: l5 :: l6 :: l7 :: l8 :: l9 :: l10 :: l11 :: l12 :: l13 :: l14 :: l15 :: l16 :: l17 :: l18 :: l19 :: l20 :: l21 :: l22 :: l23 :: l24 :: l25 :: l26 :: l27 :: .unset :: L) (.int x :: S) k n H Q ↔ W (pj lw) 100 329 (l0 :: l1 :: l2 :: l3 :: l4 :: l5 :: l6 :: l7 :: l8 :: l9 :: l10 :: l11 :: l12 :: l13 :: l14 :: l15 :: l16 :: l17 :: l18 :: l19 :: l20 :: l21 :: l22 :: l23 :: l24 :: l25 :: l26 :: l27 :: .val (.int x) :: L) S k n H Q := W_ist (rfl : (pj lw).1 100 327 = some (.istore 28, 2, 0)) rfl rfl
theorem w100_329 {x : Nat} {l0 l1 l2 l3 : Slot} : W (pj lw) 100 329 (l0 :: l1 :: l2 :: l3 :: .val (.ref x) :: L) S k n H Q ↔ W (pj lw) 100 331 (l0 :: l1 :: l2 :: l3 :: .val (.ref x) :: L) (.ref x :: S) k n H Q := W_s (rfl : (pj lw).1 100 329 = some (.aload 4, 2, 0)) rfl rfl rfl
theorem w100_331 : W (pj lw) 100 331 L S k n H Q ↔ W (pj lw) 100 332 L (.int 0 :: S) k n H Q := W_s (rfl : (pj lw).1 100 331 = some (.iconst 0, 1, 0)) rfl rfl rfl
theorem w100_332 : W (pj lw) 100 332 L S k n H Q ↔ W (pj lw) 100 333 L (.int 4 :: S) k n H Q := W_s (rfl : (pj lw).1 100 332 = some (.iconst 4, 1, 0)) rfl rfl rfl
theorem w100_333 {a : Nat} {x0 : Int32} {x1 : Int32} : W (pj lw) 100 333 L (.int x1 :: .int x0 :: .ref a :: S) k n H Q ↔ ((isO H a = true ∧ cs S + (3 + 11) + 0 ≤ 272) ∧ Cl (pj lw) 8 [.ref a, .int x0, .int x1] H (fun v H => W (pj lw) 100 336 L (v.toList ++ S) k n H Q)) := W_inst (as := [.int x0, .int x1]) (rfl : (pj lw).1 100 333 = some (.invokevirtual 43, 3, 8)) rfl rfl rfl (Nat.le_of_ble_eq_true rfl) (Nat.le_of_ble_eq_true rfl) ⟨rfl, rfl⟩
theorem w100_336 {x : Int32} {l0 l1 l2 l3 l4 l5 l6 l7 l8 l9 l10 l11 l12 l13 l14 l15 l16 l17 l18 l19 l20 l21 l22 l23 l24 l25 l26 l27 l28 : Slot} : W (pj lw) 100 336 (l0 :: l1 :: l2 :: l3 :: l4 :: l5 :: l6 :: l7 :: l8 :: l9 :: l10 :: l11 :: l12 :: l13 :: l14 :: l15 :: l16 :: l17 :: l18 :: l19 :: l20 :: l21 :: l22 :: l23 :: l24 :: l25 :: l26 :: l27 :: l28 :: .unset :: L) (.int x :: S) k n H Q ↔ W (pj lw) 100 338 (l0 :: l1 :: l2 :: l3 :: l4 :: l5 :: l6 :: l7 :: l8 :: l9 :: l10 :: l11 :: l12 :: l13 :: l14 :: l15 :: l16 :: l17 :: l18 :: l19 :: l20 :: l21 :: l22 :: l23 :: l24 :: l25 :: l26 :: l27 :: l28 :: .val (.int x) :: L) S k n H Q := W_ist (rfl : (pj lw).1 100 336 = some (.istore 29, 2, 0)) rfl rfl
theorem w100_338 {x : Int32} {l0 l1 l2 l3 l4 l5 l6 : Slot} : W (pj lw) 100 338 (l0 :: l1 :: l2 :: l3 :: l4 :: l5 :: l6 :: .val (.int x) :: L) S k n H Q ↔ W (pj lw) 100 340 (l0 :: l1 :: l2 :: l3 :: l4 :: l5 :: l6 :: .val (.int x) :: L) (.int x :: S) k n H Q := W_s (rfl : (pj lw).1 100 338 = some (.iload 7, 2, 0)) rfl rfl rfl
theorem w100_340 {x : Int32} {l0 l1 l2 l3 l4 l5 l6 l7 : Slot} : W (pj lw) 100 340 (l0 :: l1 :: l2 :: l3 :: l4 :: l5 :: l6 :: l7 :: .val (.int x) :: L) S k n H Q ↔ W (pj lw) 100 342 (l0 :: l1 :: l2 :: l3 :: l4 :: l5 :: l6 :: l7 :: .val (.int x) :: L) (.int x :: S) k n H Q := W_s (rfl : (pj lw).1 100 340 = some (.iload 8, 2, 0)) rfl rfl rfl
theorem w100_342 {x y : Int32} : W (pj lw) 100 342 L (.int y :: .int x :: S) k n H Q ↔ W (pj lw) 100 343 L (.int (x + y) :: S) k n H Q := W_s (rfl : (pj lw).1 100 342 = some (.iadd, 1, 0)) rfl rfl rfl
theorem w100_343 {x : Int32} {l0 l1 l2 l3 l4 l5 l6 l7 l8 : Slot} : W (pj lw) 100 343 (l0 :: l1 :: l2 :: l3 :: l4 :: l5 :: l6 :: l7 :: l8 :: .val (.int x) :: L) S k n H Q ↔ W (pj lw) 100 345 (l0 :: l1 :: l2 :: l3 :: l4 :: l5 :: l6 :: l7 :: l8 :: .val (.int x) :: L) (.int x :: S) k n H Q := W_s (rfl : (pj lw).1 100 343 = some (.iload 9, 2, 0)) rfl rfl rfl
theorem w100_345 {x y : Int32} : W (pj lw) 100 345 L (.int y :: .int x :: S) k n H Q ↔ W (pj lw) 100 346 L (.int (x + y) :: S) k n H Q := W_s (rfl : (pj lw).1 100 345 = some (.iadd, 1, 0)) rfl rfl rfl
theorem w100_346 : W (pj lw) 100 346 L S k n H Q ↔ W (pj lw) 100 347 L (.int 1 :: S) k n H Q := W_s (rfl : (pj lw).1 100 346 = some (.iconst 1, 1, 0)) rfl rfl rfl
theorem w100_347 {x y : Int32} : W (pj lw) 100 347 L (.int y :: .int x :: S) k n H Q ↔ (if x = y then W (pj lw) 100 350 L S k n H Q else W (pj lw) 100 444 L S k n H Q) := W_icmp_ne (rfl : (pj lw).1 100 347 = some (.if_icmp .ne 97, 3, 0)) rfl
theorem w100_350 {x : Int32} {l0 l1 l2 l3 l4 l5 l6 l7 l8 l9 l10 l11 l12 l13 l14 : Slot} : W (pj lw) 100 350 (l0 :: l1 :: l2 :: l3 :: l4 :: l5 :: l6 :: l7 :: l8 :: l9 :: l10 :: l11 :: l12 :: l13 :: l14 :: .val (.int x) :: L) S k n H Q ↔ W (pj lw) 100 352 (l0 :: l1 :: l2 :: l3 :: l4 :: l5 :: l6 :: l7 :: l8 :: l9 :: l10 :: l11 :: l12 :: l13 :: l14 :: .val (.int x) :: L) (.int x :: S) k n H Q := W_s (rfl : (pj lw).1 100 350 = some (.iload 15, 2, 0)) rfl rfl rfl
theorem w100_352 : W (pj lw) 100 352 L S k n H Q ↔ W (pj lw) 100 354 L (.int 96 :: S) k n H Q := W_s (rfl : (pj lw).1 100 352 = some (.bipush 96, 2, 0)) rfl rfl rfl
theorem w100_354 {x y : Int32} : W (pj lw) 100 354 L (.int y :: .int x :: S) k n H Q ↔ (if x = y then W (pj lw) 100 357 L S k n H Q else W (pj lw) 100 444 L S k n H Q) := W_icmp_ne (rfl : (pj lw).1 100 354 = some (.if_icmp .ne 90, 3, 0)) rfl
theorem w100_357 {x : Int32} {l0 l1 l2 l3 l4 l5 l6 l7 l8 l9 l10 l11 l12 l13 l14 l15 : Slot} : W (pj lw) 100 357 (l0 :: l1 :: l2 :: l3 :: l4 :: l5 :: l6 :: l7 :: l8 :: l9 :: l10 :: l11 :: l12 :: l13 :: l14 :: l15 :: .val (.int x) :: L) S k n H Q ↔ W (pj lw) 100 359 (l0 :: l1 :: l2 :: l3 :: l4 :: l5 :: l6 :: l7 :: l8 :: l9 :: l10 :: l11 :: l12 :: l13 :: l14 :: l15 :: .val (.int x) :: L) (.int x :: S) k n H Q := W_s (rfl : (pj lw).1 100 357 = some (.iload 16, 2, 0)) rfl rfl rfl
theorem w100_359 : W (pj lw) 100 359 L S k n H Q ↔ W (pj lw) 100 360 L (.int 1 :: S) k n H Q := W_s (rfl : (pj lw).1 100 359 = some (.iconst 1, 1, 0)) rfl rfl rfl
theorem w100_360 {x y : Int32} : W (pj lw) 100 360 L (.int y :: .int x :: S) k n H Q ↔ (if x = y then W (pj lw) 100 363 L S k n H Q else W (pj lw) 100 444 L S k n H Q) := W_icmp_ne (rfl : (pj lw).1 100 360 = some (.if_icmp .ne 84, 3, 0)) rfl
theorem w100_363 {x : Int32} {l0 l1 l2 l3 l4 l5 l6 l7 l8 l9 l10 l11 l12 l13 l14 l15 l16 : Slot} : W (pj lw) 100 363 (l0 :: l1 :: l2 :: l3 :: l4 :: l5 :: l6 :: l7 :: l8 :: l9 :: l10 :: l11 :: l12 :: l13 :: l14 :: l15 :: l16 :: .val (.int x) :: L) S k n H Q ↔ W (pj lw) 100 365 (l0 :: l1 :: l2 :: l3 :: l4 :: l5 :: l6 :: l7 :: l8 :: l9 :: l10 :: l11 :: l12 :: l13 :: l14 :: l15 :: l16 :: .val (.int x) :: L) (.int x :: S) k n H Q := W_s (rfl : (pj lw).1 100 363 = some (.iload 17, 2, 0)) rfl rfl rfl
theorem w100_365 : W (pj lw) 100 365 L S k n H Q ↔ W (pj lw) 100 366 L (.int 3 :: S) k n H Q := W_s (rfl : (pj lw).1 100 365 = some (.iconst 3, 1, 0)) rfl rfl rfl
theorem w100_366 {x y : Int32} : W (pj lw) 100 366 L (.int y :: .int x :: S) k n H Q ↔ (if x = y then W (pj lw) 100 369 L S k n H Q else W (pj lw) 100 444 L S k n H Q) := W_icmp_ne (rfl : (pj lw).1 100 366 = some (.if_icmp .ne 78, 3, 0)) rfl
theorem w100_369 {x : Int32} {l0 l1 l2 l3 l4 l5 l6 l7 l8 l9 l10 l11 l12 l13 l14 l15 l16 l17 : Slot} : W (pj lw) 100 369 (l0 :: l1 :: l2 :: l3 :: l4 :: l5 :: l6 :: l7 :: l8 :: l9 :: l10 :: l11 :: l12 :: l13 :: l14 :: l15 :: l16 :: l17 :: .val (.int x) :: L) S k n H Q ↔ W (pj lw) 100 371 (l0 :: l1 :: l2 :: l3 :: l4 :: l5 :: l6 :: l7 :: l8 :: l9 :: l10 :: l11 :: l12 :: l13 :: l14 :: l15 :: l16 :: l17 :: .val (.int x) :: L) (.int x :: S) k n H Q := W_s (rfl : (pj lw).1 100 369 = some (.iload 18, 2, 0)) rfl rfl rfl
theorem w100_371 {x : Int32} {l0 l1 l2 l3 l4 l5 l6 l7 l8 l9 : Slot} : W (pj lw) 100 371 (l0 :: l1 :: l2 :: l3 :: l4 :: l5 :: l6 :: l7 :: l8 :: l9 :: .val (.int x) :: L) S k n H Q ↔ W (pj lw) 100 373 (l0 :: l1 :: l2 :: l3 :: l4 :: l5 :: l6 :: l7 :: l8 :: l9 :: .val (.int x) :: L) (.int x :: S) k n H Q := W_s (rfl : (pj lw).1 100 371 = some (.iload 10, 2, 0)) rfl rfl rfl
theorem w100_373 {x y : Int32} : W (pj lw) 100 373 L (.int y :: .int x :: S) k n H Q ↔ (if x = y then W (pj lw) 100 376 L S k n H Q else W (pj lw) 100 444 L S k n H Q) := W_icmp_ne (rfl : (pj lw).1 100 373 = some (.if_icmp .ne 71, 3, 0)) rfl
theorem w100_376 {x : Int32} {l0 l1 l2 l3 l4 l5 l6 l7 l8 l9 l10 l11 l12 l13 l14 l15 l16 l17 l18 : Slot} : W (pj lw) 100 376 (l0 :: l1 :: l2 :: l3 :: l4 :: l5 :: l6 :: l7 :: l8 :: l9 :: l10 :: l11 :: l12 :: l13 :: l14 :: l15 :: l16 :: l17 :: l18 :: .val (.int x) :: L) S k n H Q ↔ W (pj lw) 100 378 (l0 :: l1 :: l2 :: l3 :: l4 :: l5 :: l6 :: l7 :: l8 :: l9 :: l10 :: l11 :: l12 :: l13 :: l14 :: l15 :: l16 :: l17 :: l18 :: .val (.int x) :: L) (.int x :: S) k n H Q := W_s (rfl : (pj lw).1 100 376 = some (.iload 19, 2, 0)) rfl rfl rfl
theorem w100_378 {x : Int32} {l0 l1 l2 l3 l4 l5 l6 l7 l8 l9 l10 l11 : Slot} : W (pj lw) 100 378 (l0 :: l1 :: l2 :: l3 :: l4 :: l5 :: l6 :: l7 :: l8 :: l9 :: l10 :: l11 :: .val (.int x) :: L) S k n H Q ↔ W (pj lw) 100 380 (l0 :: l1 :: l2 :: l3 :: l4 :: l5 :: l6 :: l7 :: l8 :: l9 :: l10 :: l11 :: .val (.int x) :: L) (.int x :: S) k n H Q := W_s (rfl : (pj lw).1 100 378 = some (.iload 12, 2, 0)) rfl rfl rfl
theorem w100_380 {x y : Int32} : W (pj lw) 100 380 L (.int y :: .int x :: S) k n H Q ↔ (if x = y then W (pj lw) 100 383 L S k n H Q else W (pj lw) 100 444 L S k n H Q) := W_icmp_ne (rfl : (pj lw).1 100 380 = some (.if_icmp .ne 64, 3, 0)) rfl
theorem w100_383 {x : Int32} {l0 l1 l2 l3 l4 l5 l6 l7 l8 l9 l10 l11 l12 l13 l14 l15 l16 l17 l18 l19 : Slot} : W (pj lw) 100 383 (l0 :: l1 :: l2 :: l3 :: l4 :: l5 :: l6 :: l7 :: l8 :: l9 :: l10 :: l11 :: l12 :: l13 :: l14 :: l15 :: l16 :: l17 :: l18 :: l19 :: .val (.int x) :: L) S k n H Q ↔ W (pj lw) 100 385 (l0 :: l1 :: l2 :: l3 :: l4 :: l5 :: l6 :: l7 :: l8 :: l9 :: l10 :: l11 :: l12 :: l13 :: l14 :: l15 :: l16 :: l17 :: l18 :: l19 :: .val (.int x) :: L) (.int x :: S) k n H Q := W_s (rfl : (pj lw).1 100 383 = some (.iload 20, 2, 0)) rfl rfl rfl
theorem w100_385 {x : Int32} : W (pj lw) 100 385 L (.int x :: S) k n H Q ↔ (if x = 0 then W (pj lw) 100 388 L S k n H Q else W (pj lw) 100 444 L S k n H Q) := W_if_ne (rfl : (pj lw).1 100 385 = some (.ifCond .ne 59, 3, 0)) rfl
theorem w100_388 {x : Int32} {l0 l1 l2 l3 l4 l5 l6 l7 l8 l9 l10 l11 l12 l13 l14 l15 l16 l17 l18 l19 l20 : Slot} : W (pj lw) 100 388 (l0 :: l1 :: l2 :: l3 :: l4 :: l5 :: l6 :: l7 :: l8 :: l9 :: l10 :: l11 :: l12 :: l13 :: l14 :: l15 :: l16 :: l17 :: l18 :: l19 :: l20 :: .val (.int x) :: L) S k n H Q ↔ W (pj lw) 100 390 (l0 :: l1 :: l2 :: l3 :: l4 :: l5 :: l6 :: l7 :: l8 :: l9 :: l10 :: l11 :: l12 :: l13 :: l14 :: l15 :: l16 :: l17 :: l18 :: l19 :: l20 :: .val (.int x) :: L) (.int x :: S) k n H Q := W_s (rfl : (pj lw).1 100 388 = some (.iload 21, 2, 0)) rfl rfl rfl
theorem w100_390 {x : Int32} {l0 l1 l2 l3 l4 l5 l6 l7 l8 l9 : Slot} : W (pj lw) 100 390 (l0 :: l1 :: l2 :: l3 :: l4 :: l5 :: l6 :: l7 :: l8 :: l9 :: .val (.int x) :: L) S k n H Q ↔ W (pj lw) 100 392 (l0 :: l1 :: l2 :: l3 :: l4 :: l5 :: l6 :: l7 :: l8 :: l9 :: .val (.int x) :: L) (.int x :: S) k n H Q := W_s (rfl : (pj lw).1 100 390 = some (.iload 10, 2, 0)) rfl rfl rfl
theorem w100_392 {x y : Int32} : W (pj lw) 100 392 L (.int y :: .int x :: S) k n H Q ↔ (if x = y then W (pj lw) 100 395 L S k n H Q else W (pj lw) 100 444 L S k n H Q) := W_icmp_ne (rfl : (pj lw).1 100 392 = some (.if_icmp .ne 52, 3, 0)) rfl
theorem w100_395 {x : Int32} {l0 l1 l2 l3 l4 l5 l6 l7 l8 l9 l10 l11 l12 l13 l14 l15 l16 l17 l18 l19 l20 l21 : Slot} : W (pj lw) 100 395 (l0 :: l1 :: l2 :: l3 :: l4 :: l5 :: l6 :: l7 :: l8 :: l9 :: l10 :: l11 :: l12 :: l13 :: l14 :: l15 :: l16 :: l17 :: l18 :: l19 :: l20 :: l21 :: .val (.int x) :: L) S k n H Q ↔ W (pj lw) 100 397 (l0 :: l1 :: l2 :: l3 :: l4 :: l5 :: l6 :: l7 :: l8 :: l9 :: l10 :: l11 :: l12 :: l13 :: l14 :: l15 :: l16 :: l17 :: l18 :: l19 :: l20 :: l21 :: .val (.int x) :: L) (.int x :: S) k n H Q := W_s (rfl : (pj lw).1 100 395 = some (.iload 22, 2, 0)) rfl rfl rfl
theorem w100_397 {x : Int32} {l0 l1 l2 l3 l4 l5 l6 l7 l8 l9 l10 l11 : Slot} : W (pj lw) 100 397 (l0 :: l1 :: l2 :: l3 :: l4 :: l5 :: l6 :: l7 :: l8 :: l9 :: l10 :: l11 :: .val (.int x) :: L) S k n H Q ↔ W (pj lw) 100 399 (l0 :: l1 :: l2 :: l3 :: l4 :: l5 :: l6 :: l7 :: l8 :: l9 :: l10 :: l11 :: .val (.int x) :: L) (.int x :: S) k n H Q := W_s (rfl : (pj lw).1 100 397 = some (.iload 12, 2, 0)) rfl rfl rfl
theorem w100_399 {x y : Int32} : W (pj lw) 100 399 L (.int y :: .int x :: S) k n H Q ↔ (if x = y then W (pj lw) 100 402 L S k n H Q else W (pj lw) 100 444 L S k n H Q) := W_icmp_ne (rfl : (pj lw).1 100 399 = some (.if_icmp .ne 45, 3, 0)) rfl
theorem w100_402 {x : Int32} {l0 l1 l2 l3 l4 l5 l6 l7 l8 l9 l10 l11 l12 l13 l14 l15 l16 l17 l18 l19 l20 l21 l22 : Slot} : W (pj lw) 100 402 (l0 :: l1 :: l2 :: l3 :: l4 :: l5 :: l6 :: l7 :: l8 :: l9 :: l10 :: l11 :: l12 :: l13 :: l14 :: l15 :: l16 :: l17 :: l18 :: l19 :: l20 :: l21 :: l22 :: .val (.int x) :: L) S k n H Q ↔ W (pj lw) 100 404 (l0 :: l1 :: l2 :: l3 :: l4 :: l5 :: l6 :: l7 :: l8 :: l9 :: l10 :: l11 :: l12 :: l13 :: l14 :: l15 :: l16 :: l17 :: l18 :: l19 :: l20 :: l21 :: l22 :: .val (.int x) :: L) (.int x :: S) k n H Q := W_s (rfl : (pj lw).1 100 402 = some (.iload 23, 2, 0)) rfl rfl rfl
theorem w100_404 : W (pj lw) 100 404 L S k n H Q ↔ W (pj lw) 100 405 L (.int 1 :: S) k n H Q := W_s (rfl : (pj lw).1 100 404 = some (.iconst 1, 1, 0)) rfl rfl rfl
theorem w100_405 {x y : Int32} : W (pj lw) 100 405 L (.int y :: .int x :: S) k n H Q ↔ (if x = y then W (pj lw) 100 408 L S k n H Q else W (pj lw) 100 444 L S k n H Q) := W_icmp_ne (rfl : (pj lw).1 100 405 = some (.if_icmp .ne 39, 3, 0)) rfl
theorem w100_408 {x : Int32} {l0 l1 l2 l3 l4 l5 l6 l7 l8 l9 l10 l11 l12 l13 l14 l15 l16 l17 l18 l19 l20 l21 l22 l23 : Slot} : W (pj lw) 100 408 (l0 :: l1 :: l2 :: l3 :: l4 :: l5 :: l6 :: l7 :: l8 :: l9 :: l10 :: l11 :: l12 :: l13 :: l14 :: l15 :: l16 :: l17 :: l18 :: l19 :: l20 :: l21 :: l22 :: l23 :: .val (.int x) :: L) S k n H Q ↔ W (pj lw) 100 410 (l0 :: l1 :: l2 :: l3 :: l4 :: l5 :: l6 :: l7 :: l8 :: l9 :: l10 :: l11 :: l12 :: l13 :: l14 :: l15 :: l16 :: l17 :: l18 :: l19 :: l20 :: l21 :: l22 :: l23 :: .val (.int x) :: L) (.int x :: S) k n H Q := W_s (rfl : (pj lw).1 100 408 = some (.iload 24, 2, 0)) rfl rfl rfl
theorem w100_410 : W (pj lw) 100 410 L S k n H Q ↔ W (pj lw) 100 411 L (.int 1 :: S) k n H Q := W_s (rfl : (pj lw).1 100 410 = some (.iconst 1, 1, 0)) rfl rfl rfl
theorem w100_411 {x y : Int32} : W (pj lw) 100 411 L (.int y :: .int x :: S) k n H Q ↔ (if x = y then W (pj lw) 100 414 L S k n H Q else W (pj lw) 100 444 L S k n H Q) := W_icmp_ne (rfl : (pj lw).1 100 411 = some (.if_icmp .ne 33, 3, 0)) rfl
theorem w100_414 {x : Int32} {l0 l1 l2 l3 l4 l5 l6 l7 l8 l9 l10 l11 l12 l13 l14 l15 l16 l17 l18 l19 l20 l21 l22 l23 l24 : Slot} : W (pj lw) 100 414 (l0 :: l1 :: l2 :: l3 :: l4 :: l5 :: l6 :: l7 :: l8 :: l9 :: l10 :: l11 :: l12 :: l13 :: l14 :: l15 :: l16 :: l17 :: l18 :: l19 :: l20 :: l21 :: l22 :: l23 :: l24 :: .val (.int x) :: L) S k n H Q ↔ W (pj lw) 100 416 (l0 :: l1 :: l2 :: l3 :: l4 :: l5 :: l6 :: l7 :: l8 :: l9 :: l10 :: l11 :: l12 :: l13 :: l14 :: l15 :: l16 :: l17 :: l18 :: l19 :: l20 :: l21 :: l22 :: l23 :: l24 :: .val (.int x) :: L) (.int x :: S) k n H Q := W_s (rfl : (pj lw).1 100 414 = some (.iload 25, 2, 0)) rfl rfl rfl
theorem w100_416 {x : Int32} {l0 l1 l2 : Slot} : W (pj lw) 100 416 (l0 :: l1 :: l2 :: .val (.int x) :: L) S k n H Q ↔ W (pj lw) 100 417 (l0 :: l1 :: l2 :: .val (.int x) :: L) (.int x :: S) k n H Q := W_s (rfl : (pj lw).1 100 416 = some (.iload_n 3, 1, 0)) rfl rfl rfl
theorem w100_417 {x y : Int32} : W (pj lw) 100 417 L (.int y :: .int x :: S) k n H Q ↔ (if x = y then W (pj lw) 100 420 L S k n H Q else W (pj lw) 100 444 L S k n H Q) := W_icmp_ne (rfl : (pj lw).1 100 417 = some (.if_icmp .ne 27, 3, 0)) rfl
theorem w100_420 {x : Int32} {l0 l1 l2 l3 l4 l5 l6 l7 l8 l9 l10 l11 l12 l13 l14 l15 l16 l17 l18 l19 l20 l21 l22 l23 l24 l25 : Slot} : W (pj lw) 100 420 (l0 :: l1 :: l2 :: l3 :: l4 :: l5 :: l6 :: l7 :: l8 :: l9 :: l10 :: l11 :: l12 :: l13 :: l14 :: l15 :: l16 :: l17 :: l18 :: l19 :: l20 :: l21 :: l22 :: l23 :: l24 :: l25 :: .val (.int x) :: L) S k n H Q ↔ W (pj lw) 100 422 (l0 :: l1 :: l2 :: l3 :: l4 :: l5 :: l6 :: l7 :: l8 :: l9 :: l10 :: l11 :: l12 :: l13 :: l14 :: l15 :: l16 :: l17 :: l18 :: l19 :: l20 :: l21 :: l22 :: l23 :: l24 :: l25 :: .val (.int x) :: L) (.int x :: S) k n H Q := W_s (rfl : (pj lw).1 100 420 = some (.iload 26, 2, 0)) rfl rfl rfl
theorem w100_422 {x : Int32} : W (pj lw) 100 422 L (.int x :: S) k n H Q ↔ (if x = 0 then W (pj lw) 100 425 L S k n H Q else W (pj lw) 100 444 L S k n H Q) := W_if_ne (rfl : (pj lw).1 100 422 = some (.ifCond .ne 22, 3, 0)) rfl
theorem w100_425 {x : Int32} {l0 l1 l2 l3 l4 l5 l6 l7 l8 l9 l10 l11 l12 l13 l14 l15 l16 l17 l18 l19 l20 l21 l22 l23 l24 l25 l26 : Slot} : W (pj lw) 100 425 (l0 :: l1 :: l2 :: l3 :: l4 :: l5 :: l6 :: l7 :: l8 :: l9 :: l10 :: l11 :: l12 :: l13 :: l14 :: l15 :: l16 :: l17 :: l18 :: l19 :: l20 :: l21 :: l22 :: l23 :: l24 :: l25 :: l26 :: .val (.int x) :: L) S k n H Q ↔ W (pj lw) 100 427 (l0 :: l1 :: l2 :: l3 :: l4 :: l5 :: l6 :: l7 :: l8 :: l9 :: l10 :: l11 :: l12 :: l13 :: l14 :: l15 :: l16 :: l17 :: l18 :: l19 :: l20 :: l21 :: l22 :: l23 :: l24 :: l25 :: l26 :: .val (.int x) :: L) (.int x :: S) k n H Q := W_s (rfl : (pj lw).1 100 425 = some (.iload 27, 2, 0)) rfl rfl rfl
theorem w100_427 {x : Int32} : W (pj lw) 100 427 L (.int x :: S) k n H Q ↔ (if x = 0 then W (pj lw) 100 430 L S k n H Q else W (pj lw) 100 444 L S k n H Q) := W_if_ne (rfl : (pj lw).1 100 427 = some (.ifCond .ne 17, 3, 0)) rfl
theorem w100_430 {x : Int32} {l0 l1 l2 l3 l4 l5 l6 l7 l8 l9 l10 l11 l12 l13 l14 l15 l16 l17 l18 l19 l20 l21 l22 l23 l24 l25 l26 l27 : Slot} : W (pj lw) 100 430 (l0 :: l1 :: l2 :: l3 :: l4 :: l5 :: l6 :: l7 :: l8 :: l9 :: l10 :: l11 :: l12 :: l13 :: l14 :: l15 :: l16 :: l17 :: l18 :: l19 :: l20 :: l21 :: l22 :: l23 :: l24 :: l25 :: l26 :: l27 :: .val (.int x) :: L) S k n H Q ↔ W (pj lw) 100 432 (l0 :: l1 :: l2 :: l3 :: l4 :: l5 :: l6 :: l7 :: l8 :: l9 :: l10 :: l11 :: l12 :: l13 :: l14 :: l15 :: l16 :: l17 :: l18 :: l19 :: l20 :: l21 :: l22 :: l23 :: l24 :: l25 :: l26 :: l27 :: .val (.int x) :: L) (.int x :: S) k n H Q := W_s (rfl : (pj lw).1 100 430 = some (.iload 28, 2, 0)) rfl rfl rfl
theorem w100_432 {x : Int32} : W (pj lw) 100 432 L (.int x :: S) k n H Q ↔ (if x = 0 then W (pj lw) 100 435 L S k n H Q else W (pj lw) 100 444 L S k n H Q) := W_if_ne (rfl : (pj lw).1 100 432 = some (.ifCond .ne 12, 3, 0)) rfl
theorem w100_435 {x : Int32} {l0 l1 l2 l3 l4 l5 l6 l7 l8 l9 l10 l11 l12 l13 l14 l15 l16 l17 l18 l19 l20 l21 l22 l23 l24 l25 l26 l27 l28 : Slot} : W (pj lw) 100 435 (l0 :: l1 :: l2 :: l3 :: l4 :: l5 :: l6 :: l7 :: l8 :: l9 :: l10 :: l11 :: l12 :: l13 :: l14 :: l15 :: l16 :: l17 :: l18 :: l19 :: l20 :: l21 :: l22 :: l23 :: l24 :: l25 :: l26 :: l27 :: l28 :: .val (.int x) :: L) S k n H Q ↔ W (pj lw) 100 437 (l0 :: l1 :: l2 :: l3 :: l4 :: l5 :: l6 :: l7 :: l8 :: l9 :: l10 :: l11 :: l12 :: l13 :: l14 :: l15 :: l16 :: l17 :: l18 :: l19 :: l20 :: l21 :: l22 :: l23 :: l24 :: l25 :: l26 :: l27 :: l28 :: .val (.int x) :: L) (.int x :: S) k n H Q := W_s (rfl : (pj lw).1 100 435 = some (.iload 29, 2, 0)) rfl rfl rfl
theorem w100_437 {x : Int32} : W (pj lw) 100 437 L (.int x :: S) k n H Q ↔ (if x = 0 then W (pj lw) 100 440 L S k n H Q else W (pj lw) 100 444 L S k n H Q) := W_if_ne (rfl : (pj lw).1 100 437 = some (.ifCond .ne 7, 3, 0)) rfl
theorem w100_440 : W (pj lw) 100 440 L S k n H Q ↔ W (pj lw) 100 441 L (.int 1 :: S) k n H Q := W_s (rfl : (pj lw).1 100 440 = some (.iconst 1, 1, 0)) rfl rfl rfl
theorem w100_441 : W (pj lw) 100 441 L S k n H Q ↔ W (pj lw) 100 445 L S k n H Q := W_goto (rfl : (pj lw).1 100 441 = some (.goto 4, 3, 0)) rfl
theorem w100_445 {x : Int32} : W (pj lw) 100 445 L (.int x :: S) k n H Q ↔ ((x = 0 ∨ x = 1) ∧ Q (some (.int x)) H) := W_rz (rfl : (pj lw).1 100 445 = some (.ireturn, 1, 0)) rfl
end LPc
section X5
variable {H : AH} {p : Nat} {s s' w : St} {Q : Option Value → AH → Prop} {k n : Nat} {a b ps fl di st tm t bd dl x y g f : Nat} {nf cp : Int32}
def dI (d : Nat) : Int32 := if d = 0 then 0 else if d = 1 then 1 else -1
def opp (d : Nat) : Nat := if d = 1 then 2 else 1
def dd (a b : Nat) : Nat := if a < b then 1 else 2
def tI (n : Nat) : Int32 := if n = 0 then -1 else Int32.ofNat n
def byC (a b ps fl x : Nat) : Bool := decide ((ps = 1 ∧ ((x = 1 ∧ fl < a) ∨ (x = 2 ∧ a < fl))) ∨ (ps = 2 ∧ ((x = 1 ∧ fl < b) ∨ (x = 2 ∧ b < fl))))
def wdC (a b ps f x : Nat) : Bool := decide (ps = 1 ∧ f = a ∧ x = dd a b)
def sdC (di : Nat) : Nat := if di = 0 then 1 else di
def chC (a b ps fl di : Nat) : Nat := if (byC a b ps fl (sdC di) || wdC a b ps fl (sdC di)) = true then sdC di else if (byC a b ps fl (opp (sdC di)) || wdC a b ps fl (opp (sdC di))) = true then opp (sdC di) else 0
def K1 (w : St) (a b : Nat) (nf : Int32) (ps fl : Nat) : Prop := sI w 4 = 1 ∧ sI w 1 = nf ∧ sA w 6 0 = Int32.ofNat ps ∧ sA w 7 0 = Int32.ofNat a ∧ sA w 8 0 = Int32.ofNat b ∧ (2 ≤ ps → sA w 12 0 = 0) ∧ (ps = 1 → sA w 13 (slI (Int32.ofNat a) (dI (dd a b))).toNatClampNeg = 0) ∧ sA w 1 0 = Int32.ofNat fl
def R1 (a b : Nat) (nf : Int32) : Prop := a ≠ b ∧ (a : Int) < nf.toInt ∧ (b : Int) < nf.toInt ∧ nf.toInt ≤ 16
theorem of_i {u v : Nat} (hu : u < 1000) (hv : v < 1000) : (Int32.ofNat u = Int32.ofNat v) ↔ u = v := by
  have e1 : (Int32.ofNat u).toInt = u := Int32.toInt_ofNat_of_lt (by omega)
  have e2 : (Int32.ofNat v).toInt = v := Int32.toInt_ofNat_of_lt (by omega)
  rw [eq32, e1, e2]; omega
theorem of_l {u v : Nat} (hu : u < 1000) (hv : v < 1000) : (Int32.ofNat u < Int32.ofNat v) ↔ u < v := by
  have e1 : (Int32.ofNat u).toInt = u := Int32.toInt_ofNat_of_lt (by omega)
  have e2 : (Int32.ofNat v).toInt = v := Int32.toInt_ofNat_of_lt (by omega)
  rw [lt32, e1, e2]; omega
theorem dI_i {u v : Nat} (hu : u ≤ 2) (hv : v ≤ 2) : (dI u = dI v) ↔ u = v := by
  have : ∀ u v : Fin 3, (dI u.val = dI v.val) ↔ u.val = v.val := by decide
  exact this ⟨u, by omega⟩ ⟨v, by omega⟩
theorem dI_opp (h : x = 1 ∨ x = 2) : -(dI x) = dI (opp x) := by rcases h with rfl | rfl <;> decide
theorem pc_K (h : sI w 4 = 1) : pc w = 1 := by unfold pc; rw [h]; rfl
theorem drn_K (hR : R1 a b nf) (h7 : sA w 7 0 = Int32.ofNat a) (h8 : sA w 8 0 = Int32.ofNat b) : drn w 0 = dI (dd a b) := by
  have ha : a < 1000 := by have := hR.2; omega
  have hb : b < 1000 := by have := hR.2; omega
  unfold drn dd; rw [h7, h8]
  by_cases e : a < b
  · rw [if_pos ((of_l ha hb).mpr e), if_pos e]; rfl
  · rw [if_neg (fun z => e ((of_l ha hb).mp z)), if_neg e]; rfl
theorem dd_le : dd a b = 1 ∨ dd a b = 2 := by unfold dd; split <;> simp
theorem wd_K (hR : R1 a b nf) (h : K1 w a b nf ps fl) (hf : f < 1000) (hx : x = 1 ∨ x = 2) (hp : ps < 1000) : wd w (Int32.ofNat f) (dI x) = wdC a b ps f x := by
  obtain ⟨h4, h1, h6, h7, h8, h12, h13, hfl⟩ := h
  have ha : a < 1000 := by have := hR.2; omega
  unfold wd wdC; rw [pc_K h4]; simp only [anyN]
  have : wdF w (Int32.ofNat f) (dI x) 0 = decide (ps = 1 ∧ f = a ∧ x = dd a b) := by
    unfold wdF; rw [h6, h7, drn_K hR h7 h8]
    refine decide_eq_decide.mpr ?_
    rw [show (1 : Int32) = Int32.ofNat 1 from rfl, of_i hp (by omega), of_i ha hf, dI_i (by rcases dd_le (a := a) (b := b) with e | e <;> omega) (by omega)]
    constructor <;> rintro ⟨q1, q2, q3⟩ <;> exact ⟨q1, q2.symm, q3.symm⟩
  rw [this]; cases decide (ps = 1 ∧ f = a ∧ x = dd a b) <;> rfl
theorem rd_K (hR : R1 a b nf) (h : K1 w a b nf ps fl) (hg : g < 1000) (hp : ps < 1000) : rd w 0 (Int32.ofNat g) = decide (ps = 2 ∧ g = b) := by
  obtain ⟨h4, h1, h6, h7, h8, h12, h13, hfl⟩ := h
  have hb : b < 1000 := by have := hR.2; omega
  unfold rd; rw [pc_K h4]; simp only [anyN]
  have : rdF w 0 (Int32.ofNat g) 0 = decide (ps = 2 ∧ g = b) := by
    unfold rdF; rw [h6, h8]
    refine decide_eq_decide.mpr ?_
    rw [show (2 : Int32) = Int32.ofNat 2 from rfl, of_i hp (by omega), of_i hb hg]
    exact ⟨fun z => ⟨z.1, z.2.2.symm⟩, fun z => ⟨z.1, h12 (by omega), z.2.symm⟩⟩
  rw [this]; cases decide (ps = 2 ∧ g = b) <;> rfl
theorem asg_K (hR : R1 a b nf) (h : K1 w a b nf ps fl) (hf : f < 1000) (hx : x = 1 ∨ x = 2) (hp : ps < 1000) : asg w (Int32.ofNat f) (dI x) 0 = wdC a b ps f x := by
  have hw := wd_K hR h hf hx hp
  obtain ⟨h4, h1, h6, h7, h8, h12, h13, hfl⟩ := h
  unfold asg; rw [hw]
  cases e : wdC a b ps f x with
  | false => simp
  | true =>
    obtain ⟨q1, q2, q3⟩ := of_decide_eq_true e
    subst q2 q3
    have e1 : (Int32.ofNat f).toInt = f := Int32.toInt_ofNat_of_lt (by omega)
    rw [decide_eq_true ⟨by rw [lt32, e1]; simp only [Int32.reduceToInt]; omega, by rw [lt32, e1, h1]; exact hR.2.1⟩, decide_eq_true (h13 q1)]; rfl
theorem anyN_i {F : Nat → Bool} : ∀ (m j i : Nat), j ≤ i → i < j + m → F i = true → anyN F j m = true
  | 0, j, i, h1, h2, _ => by omega
  | m + 1, j, i, h1, h2, h3 => by
    rw [anyN]; split
    · rfl
    · rename_i q
      have : i ≠ j := fun e => q (e ▸ h3)
      exact anyN_i m (j + 1) i (by omega) (by omega) h3
theorem byd_K (hR : R1 a b nf) (h : K1 w a b nf ps fl) (hx : x = 1 ∨ x = 2) (hp : ps < 1000) (hl : fl < 1000) : byd w 0 (dI x) = byC a b ps fl x := by
  have ha : a < 1000 := by have := hR.2; omega
  have hb : b < 1000 := by have := hR.2; omega
  have nr := hR.2
  have h1 := h.2.1
  have hfl := h.2.2.2.2.2.2.2
  have tgK : ∀ g, g < 1000 → tg w 0 (Int32.ofNat g) = decide ((ps = 2 ∧ g = b) ∨ (ps = 1 ∧ g = a)) := fun g hg => by
    have a1 : asg w (Int32.ofNat g) 1 0 = wdC a b ps g 1 := asg_K hR h hg (Or.inl rfl) hp
    have a2 : asg w (Int32.ofNat g) (-1) 0 = wdC a b ps g 2 := asg_K hR h hg (Or.inr rfl) hp
    unfold tg; rw [rd_K hR h hg hp, a1, a2]
    unfold wdC
    by_cases q1 : ps = 2 ∧ g = b
    · rw [decide_eq_true q1, decide_eq_true (Or.inl q1)]; rfl
    · by_cases q2 : ps = 1 ∧ g = a
      · rw [decide_eq_false q1, decide_eq_true (p := (ps = 2 ∧ g = b) ∨ ps = 1 ∧ g = a) (Or.inr q2)]
        rcases dd_le (a := a) (b := b) with e | e
        · rw [decide_eq_true (p := ps = 1 ∧ g = a ∧ 1 = dd a b) ⟨q2.1, q2.2, e.symm⟩]; simp
        · rw [decide_eq_true (p := ps = 1 ∧ g = a ∧ 2 = dd a b) ⟨q2.1, q2.2, e.symm⟩]; simp
      · rw [decide_eq_false q1, decide_eq_false (p := ps = 1 ∧ g = a ∧ 1 = dd a b) (fun z => q2 ⟨z.1, z.2.1⟩), decide_eq_false (p := ps = 1 ∧ g = a ∧ 2 = dd a b) (fun z => q2 ⟨z.1, z.2.1⟩), decide_eq_false (p := (ps = 2 ∧ g = b) ∨ ps = 1 ∧ g = a) (fun z => z.elim q1 q2)]; rfl
  have bf : ∀ g, g < 1000 → byF w 0 (dI x) g = decide (((x = 1 ∧ fl < g) ∨ (x = 2 ∧ g < fl)) ∧ ((ps = 2 ∧ g = b) ∨ (ps = 1 ∧ g = a))) := fun g hg => by
    unfold byF; rw [tgK g hg, show (0 : Int32).toNatClampNeg = 0 from rfl, hfl]
    have e1 : (dI x = 1) ↔ x = 1 := by rw [show (1 : Int32) = dI 1 from rfl, dI_i (by omega) (by omega)]
    have e2 : (dI x = -1) ↔ x = 2 := by rw [show (-1 : Int32) = dI 2 from rfl, dI_i (by omega) (by omega)]
    rw [← Bool.decide_and]
    refine decide_eq_decide.mpr ?_
    rw [e1, e2, of_l hl hg, of_l hg hl]
  unfold byd; rw [h1]
  cases e : byC a b ps fl x with
  | true =>
    have q := of_decide_eq_true e
    rcases q with ⟨q1, q2⟩ | ⟨q1, q2⟩
    · exact anyN_i _ _ a (by omega) (by omega) (by rw [bf a ha]; exact decide_eq_true ⟨q2, Or.inr ⟨q1, rfl⟩⟩)
    · exact anyN_i _ _ b (by omega) (by omega) (by rw [bf b hb]; exact decide_eq_true ⟨q2, Or.inl ⟨q1, rfl⟩⟩)
  | false =>
    cases e2 : anyN (byF w 0 (dI x)) 0 nf.toInt.toNat with
    | false => rfl
    | true =>
      obtain ⟨i, -, i2, i3⟩ := anyN_e _ _ e2
      rw [bf i (by omega)] at i3
      obtain ⟨z1, z2⟩ := of_decide_eq_true i3
      have : byC a b ps fl x = true := by
        unfold byC; refine decide_eq_true ?_
        rcases z2 with ⟨u1, u2⟩ | ⟨u1, u2⟩
        · subst u2; exact Or.inr ⟨u1, z1⟩
        · subst u2; exact Or.inl ⟨u1, z1⟩
      rw [e] at this; exact this.symm
theorem chs_K (hR : R1 a b nf) (h : K1 w a b nf ps fl) (hd : sA w 3 0 = dI di) (h2 : di ≤ 2) (hp : ps < 1000) (hl : fl < 1000) : chs w 0 = dI (chC a b ps fl di) := by
  have hfl := h.2.2.2.2.2.2.2
  have sx : sdC di = 1 ∨ sdC di = 2 := by unfold sdC; split <;> omega
  have ox : opp (sdC di) = 1 ∨ opp (sdC di) = 2 := by unfold opp; split <;> simp
  have es : sdr w 0 = dI (sdC di) := by
    unfold sdr sdC; rw [show (0 : Int32).toNatClampNeg = 0 from rfl, hd]
    by_cases q : di = 0
    · rw [if_pos q, q]; rfl
    · rw [if_neg q, if_neg (show ¬ dI di = 0 from fun z => q ((dI_i (v := 0) h2 (by omega)).mp z))]
  unfold chs chC; rw [es, dI_opp sx, show (0 : Int32).toNatClampNeg = 0 from rfl, hfl, byd_K hR h sx hp hl, byd_K hR h ox hp hl, wd_K hR h hl sx hp, wd_K hR h hl ox hp]
  split
  · rfl
  · split <;> rfl
theorem slI_n {f : Nat} (hf : f < 1000) (hx : x = 1 ∨ x = 2) : (slI (Int32.ofNat f) (dI x)).toNatClampNeg = 2 * f + (x - 1) := by
  have e1 : (Int32.ofNat f).toInt = f := Int32.toInt_ofNat_of_lt (by omega)
  have e2 : (Int32.ofNat f * 2).toInt = f * 2 := by rw [im (by rw [e1]; simp only [Int32.reduceToInt]; omega) (by rw [e1]; simp only [Int32.reduceToInt]; omega), e1]; rfl
  unfold slI
  rcases hx with rfl | rfl
  · rw [if_pos (by decide), cln, ia (by rw [e2]; simp only [Int32.reduceToInt]; omega) (by rw [e2]; simp only [Int32.reduceToInt]; omega), e2]; simp only [Int32.reduceToInt]; omega
  · rw [if_neg (by decide), cln, ia (by rw [e2]; simp only [Int32.reduceToInt]; omega) (by rw [e2]; simp only [Int32.reduceToInt]; omega), e2]; simp only [Int32.reduceToInt]; omega
def S13 (w u : St) : Prop := (∀ x, sI u x = sI w x) ∧ ∀ t j, t ≠ 13 → sA u t j = sA w t j
theorem S13_as {u : St} {f x : Int32} (h : S13 w u) : S13 w (asS u f x) := ⟨fun y => asS_I.trans (h.1 y), fun t j ht => (asS_A ht).trans (h.2 t j ht)⟩
theorem wd_13 {u : St} {f x : Int32} (h : S13 w u) : wd u f x = wd w f x := by
  have : wdF u f x = wdF w f x := by funext i; unfold wdF drn; rw [h.2 6 i (by decide), h.2 7 i (by decide), h.2 8 i (by decide)]
  unfold wd pc; rw [this, h.1 4]
theorem as_at {u : St} {f x : Int32} {j : Nat} : sA (asS u f x) 13 j = if j = (slI f x).toNatClampNeg then (if wd u f x = true then asB u f x else -1) else sA u 13 j := by
  unfold asS; split
  · rw [sA_uA]; by_cases e : j = (slI f x).toNatClampNeg
    · rw [if_pos ⟨rfl, e⟩, if_pos e]
    · rw [if_neg (fun z => e z.2), if_neg e]
  · rw [sA_uA]; by_cases e : j = (slI f x).toNatClampNeg
    · rw [if_pos ⟨rfl, e⟩, if_pos e]
    · rw [if_neg (fun z => e z.2), if_neg e]
theorem asB_1 {u : St} {f x : Int32} (h : sI u 0 = 1) : asB u f x = 0 := by
  unfold asB; rw [h]; simp only [Int32.reduceToInt, Int.toNat_one, bsF, true_or, if_true]
  unfold asB0; split
  · rename_i q
    rw [h] at q
    have := q.1; rw [lt32, lt32] at this; rw [eq32]; simp only [Int32.reduceToInt] at *; omega
  · rfl
theorem dp_slot (h0 : sI w 0 = 1) (ha : a < 1000) (hw : wd w (Int32.ofNat a) (dI (dd a b)) = true) : ∀ (m k : Nat) (u : St), k + m ≤ 1000 → S13 w u → (a < k → sA u 13 (slI (Int32.ofNat a) (dI (dd a b))).toNatClampNeg = 0) → S13 w (itF dpF m k u) ∧ (a < k + m → sA (itF dpF m k u) 13 (slI (Int32.ofNat a) (dI (dd a b))).toNatClampNeg = 0)
  | 0, k, u, hk, hS, hp => ⟨hS, hp⟩
  | m + 1, k, u, hk, hS, hp => by
    have S1 : S13 w (asS u (Int32.ofNat k) 1) := S13_as hS
    have S2 : S13 w (dpF u k) := S13_as S1
    rw [itF, show k + (m + 1) = k + 1 + m by omega]
    refine dp_slot h0 ha hw m (k + 1) (dpF u k) (by omega) S2 fun hlt => ?_
    have ia' := slI_n (x := dd a b) ha dd_le
    have i1 : (slI (Int32.ofNat k) 1).toNatClampNeg = 2 * k + (1 - 1) := slI_n (f := k) (x := 1) (by omega) (Or.inl rfl)
    have i2 : (slI (Int32.ofNat k) (-1)).toNatClampNeg = 2 * k + (2 - 1) := slI_n (f := k) (x := 2) (by omega) (Or.inr rfl)
    have e0 : sI u 0 = 1 := (hS.1 0).trans h0
    have e1 : sI (asS u (Int32.ofNat k) 1) 0 = 1 := (S1.1 0).trans h0
    unfold dpF; rw [as_at, as_at, ia', i1, i2]
    by_cases e : k = a
    · subst e
      rcases dd_le (a := k) (b := b) with d | d
      · rw [d] at hw ⊢
        have hw' : wd u (Int32.ofNat k) 1 = true := (wd_13 hS).trans hw
        rw [if_neg (by omega), if_pos (by omega), if_pos hw', asB_1 e0]
      · rw [d] at hw ⊢
        have hw' : wd (asS u (Int32.ofNat k) 1) (Int32.ofNat k) (-1) = true := (wd_13 S1).trans hw
        rw [if_pos (by omega), if_pos hw', asB_1 e1]
    · have := hp (by omega)
      rw [ia'] at this
      have dl' := dd_le (a := a) (b := b)
      rw [if_neg (by omega), if_neg (by omega)]; exact this
def CC (s : St) (a b : Nat) (nf cp : Int32) (t fl st di tm ps bd dl : Nat) : Prop := Ev s ∧ (sI s 0 = 1 ∧ sI s 1 = nf ∧ sI s 2 = cp ∧ sI s 4 = 1) ∧ (sA s 7 0 = Int32.ofNat a ∧ sA s 8 0 = Int32.ofNat b ∧ sA s 9 0 = 0) ∧ sI s 3 = Int32.ofNat t ∧ sA s 1 0 = Int32.ofNat fl ∧ sA s 2 0 = Int32.ofNat st ∧ sA s 3 0 = dI di ∧ sA s 4 0 = (if ps = 2 then 1 else 0) ∧ sA s 5 0 = Int32.ofNat tm ∧ sA s 6 0 = Int32.ofNat ps ∧ sA s 10 0 = tI bd ∧ sA s 11 0 = tI dl ∧ (2 ≤ ps → sA s 12 0 = 0)
theorem CC_1 (hR : R1 a b nf) (h : CC s a b nf cp t fl st di tm ps bd dl) (hp : ps ≤ 3) (h0 : ps = 0 → t = 0) : CC (tk1 s) a b nf cp t fl st di tm (if ps = 0 then 1 else ps) bd dl ∧ K1 (tk1 s) a b nf (if ps = 0 then 1 else ps) fl := by
  obtain ⟨hE, ⟨i0, i1, i2, i4⟩, ⟨a7, a8, a9⟩, i3, a1, a2, a3, a4, a5, a6, a10, a11, a12⟩ := h
  have ha : a < 1000 := by have := hR.2; omega
  have p1 : pc s = 1 := pc_K i4
  have eA : arS s = if ps = 0 then uA s 6 0 1 else s := by
    unfold arS; rw [p1]; simp only [itF]
    unfold arF; rw [a6, a9, i3]
    by_cases e : ps = 0
    · rw [if_pos e, if_pos ⟨by rw [e]; rfl, by rw [h0 e]; rfl⟩]
    · rw [if_neg e, if_neg (fun z => e ((of_i (u := ps) (v := 0) (by omega) (by omega)).mp z.1))]
  have r6 : sA (arS s) 6 0 = Int32.ofNat (if ps = 0 then 1 else ps) := by
    rw [eA]; by_cases e : ps = 0
    · rw [if_pos e, if_pos e, sA_uA, if_pos ⟨rfl, rfl⟩]; rfl
    · rw [if_neg e, if_neg e]; exact a6
  have hI : ∀ x, sI (tk1 s) x = sI s x := fun x => tk1_I
  have hA : ∀ t j, t ≠ 6 → t ≠ 13 → sA (tk1 s) t j = sA s t j := fun t j h1 h2 => by unfold tk1; rw [dpS_A h2, arS_A h1]
  have h6 : sA (tk1 s) 6 0 = Int32.ofNat (if ps = 0 then 1 else ps) := by unfold tk1; rw [dpS_A (by decide)]; exact r6
  have c12 : 2 ≤ (if ps = 0 then 1 else ps) → sA (tk1 s) 12 0 = 0 := fun q => by
    rw [hA 12 0 (by decide) (by decide)]; refine a12 ?_; split at q <;> omega
  refine ⟨⟨hE.of (hI 0) (hI 1) (hI 4), ⟨(hI 0).trans i0, (hI 1).trans i1, (hI 2).trans i2, (hI 4).trans i4⟩, ⟨(hA 7 0 (by decide) (by decide)).trans a7, (hA 8 0 (by decide) (by decide)).trans a8, (hA 9 0 (by decide) (by decide)).trans a9⟩, (hI 3).trans i3, (hA 1 0 (by decide) (by decide)).trans a1, (hA 2 0 (by decide) (by decide)).trans a2, (hA 3 0 (by decide) (by decide)).trans a3, ?_, (hA 5 0 (by decide) (by decide)).trans a5, h6, (hA 10 0 (by decide) (by decide)).trans a10, (hA 11 0 (by decide) (by decide)).trans a11, c12⟩, (hI 4).trans i4, (hI 1).trans i1, h6, (hA 7 0 (by decide) (by decide)).trans a7, (hA 8 0 (by decide) (by decide)).trans a8, c12, fun q => ?_, (hA 1 0 (by decide) (by decide)).trans a1⟩
  · rw [hA 4 0 (by decide) (by decide), a4]
    by_cases e : ps = 0
    · subst e; rfl
    · rw [if_neg e]
  · have j0 : sI (arS s) 0 = 1 := arS_I.trans i0
    have hw : wd (arS s) (Int32.ofNat a) (dI (dd a b)) = true := by
      unfold wd; rw [show pc (arS s) = 1 by unfold pc; rw [arS_I, i4]; rfl]; simp only [anyN]
      have : wdF (arS s) (Int32.ofNat a) (dI (dd a b)) 0 = true := by
        unfold wdF; rw [r6, q, arS_A (by decide), drn_K hR ((arS_A (by decide)).trans a7) ((arS_A (by decide)).trans a8)]
        exact decide_eq_true ⟨rfl, a7, rfl⟩
      rw [this]; rfl
    have := (dp_slot (w := arS s) (a := a) (b := b) j0 ha hw (sI (arS s) 1).toInt.toNat 0 (arS s) (by rw [arS_I, i1]; have := hR.2; omega) ⟨fun _ => rfl, fun _ _ _ => rfl⟩ (fun z => by omega)).2 (by rw [arS_I, i1]; have := hR.2; omega)
    exact this
def nfl (fl di : Nat) : Nat := if di = 1 then fl + 1 else fl - 1
def stopC (a b ps f di : Nat) : Bool := decide (ps = 2 ∧ f = b) || (wdC a b ps f di || (!byC a b ps f di && wdC a b ps f (opp di)))
abbrev Cf : Type := Nat × Nat × Nat × Nat × Nat × Nat × Nat × Nat
def run1 (a b t fl st di tm ps bd dl : Nat) : Cf :=
  if st = 0 then
    (if chC a b ps fl di = 0 then (t + 1, fl, 0, 0, tm, ps, bd, dl)
     else if wdC a b ps fl (chC a b ps fl di) = true then (t + 1, fl, 1, chC a b ps fl di, 3, ps, bd, dl)
     else if byC a b ps fl (chC a b ps fl di) = true then (t + 1, fl, 3, chC a b ps fl di, 3, ps, bd, dl) else (t + 1, fl, 0, chC a b ps fl di, tm, ps, bd, dl))
  else if st = 3 then
    (if 1 < tm then (t + 1, fl, 3, di, tm - 1, ps, bd, dl)
     else if stopC a b ps (nfl fl di) di = true then (t + 1, nfl fl di, 1, di, 3, ps, bd, dl)
     else if byC a b ps (nfl fl di) di = true then (t + 1, nfl fl di, 3, di, 2, ps, bd, dl) else (t + 1, nfl fl di, 0, di, 0, ps, bd, dl))
  else if st = 1 then
    (if ps = 2 ∧ fl = b then (t + 1, fl, 1, 0, 3, 3, bd, t)
     else if wdC a b ps fl (chC a b ps fl di) = true then (t + 1, fl, 1, chC a b ps fl di, 3, 2, t, dl)
     else if tm = 1 then (t + 1, fl, 2, chC a b ps fl di, 0, ps, bd, dl) else (t + 1, fl, 1, chC a b ps fl di, tm - 1, ps, bd, dl))
  else (if wdC a b ps fl (chC a b ps fl di) = true then (t + 1, fl, 1, chC a b ps fl di, 3, ps, bd, dl) else (t + 1, fl, 0, chC a b ps fl di, 0, ps, bd, dl))
def okC (t fl st di tm ps : Nat) : Bool := decide (t ≤ 95 ∧ fl < 100 ∧ di ≤ 2 ∧ st ≤ 3 ∧ tm ≤ 3 ∧ ps ≤ 3 ∧ (ps = 0 → t = 0) ∧ (st = 3 → (di = 1 ∨ di = 2) ∧ (di = 2 → 1 ≤ fl) ∧ 1 ≤ tm) ∧ (st = 1 → 1 ≤ tm ∧ 1 ≤ t))
def CX5 (s : St) (a b : Nat) (nf cp : Int32) (c : Cf) : Prop := CC s a b nf cp c.1 c.2.1 c.2.2.1 c.2.2.2.1 c.2.2.2.2.1 c.2.2.2.2.2.1 c.2.2.2.2.2.2.1 c.2.2.2.2.2.2.2
theorem chC_le (h : di ≤ 2) : chC a b ps fl di ≤ 2 := by
  have h1 : sdC di ≤ 2 := by unfold sdC; split <;> omega
  have h2 : opp (sdC di) ≤ 2 := by unfold opp; split <;> omega
  unfold chC; split
  · exact h1
  · split
    · exact h2
    · omega
theorem wdC_0 : wdC a b ps f 0 = false := decide_eq_false fun z => by rcases dd_le (a := a) (b := b) with e | e <;> omega
theorem CC_2 (hR : R1 a b nf) (hcp : 1 ≤ cp.toInt) (hC : CC w a b nf cp t fl st di tm ps bd dl) (hK : K1 w a b nf ps fl) (ho : okC t fl st di tm ps = true) (hp1 : 1 ≤ ps) :
    CX5 (uI (rcS w 0) 3 (sI (rcS w 0) 3 + 1)) a b nf cp (run1 a b t fl st di tm ps bd dl) := by
  obtain ⟨o1, o2, o3, o4, o5, o6, -, o8, o9⟩ := of_decide_eq_true ho
  have hC0 := hC
  obtain ⟨hE, ⟨i0, i1, i2, i4⟩, ⟨a7, a8, a9⟩, i3, a1, a2, a3, a4, a5, a6, a10, a11, a12⟩ := hC
  have z0 : (0 : Int32).toNatClampNeg = 0 := rfl
  have hch := chs_K hR hK a3 o3 (by omega) (by omega)
  have cle := chC_le (a := a) (b := b) (ps := ps) (fl := fl) o3
  have t1 : Int32.ofNat t + 1 = Int32.ofNat (t + 1) := by rw [Int32.ofNat_add]; rfl
  have fin : ∀ (v : St) (fl st di tm ps bd dl : Nat), Ev v → (∀ x, x ≠ 5 → sI v x = sI w x) → (∀ t, t = 7 ∨ t = 8 ∨ t = 9 → sA v t 0 = sA w t 0) → sA v 1 0 = Int32.ofNat fl → sA v 2 0 = Int32.ofNat st → sA v 3 0 = dI di → sA v 4 0 = (if ps = 2 then 1 else 0) → sA v 5 0 = Int32.ofNat tm → sA v 6 0 = Int32.ofNat ps → sA v 10 0 = tI bd → sA v 11 0 = tI dl → (2 ≤ ps → sA v 12 0 = 0) → CX5 (uI v 3 (sI v 3 + 1)) a b nf cp (t + 1, fl, st, di, tm, ps, bd, dl) := by
    intro v fl st di tm ps bd dl hE' hI' h789 b1 b2 b3 b4 b5 b6 b10 b11 b12
    have q : ∀ x, x ≠ 3 → x ≠ 5 → sI (uI v 3 (sI v 3 + 1)) x = sI w x := fun x h3 h5 => by rw [sI_uI, if_neg h3, hI' x h5]
    refine ⟨hE'.of (by rw [sI_uI, if_neg (by decide)]) (by rw [sI_uI, if_neg (by decide)]) (by rw [sI_uI, if_neg (by decide)]), ⟨(q 0 (by decide) (by decide)).trans i0, (q 1 (by decide) (by decide)).trans i1, (q 2 (by decide) (by decide)).trans i2, (q 4 (by decide) (by decide)).trans i4⟩, ?_, ?_, ?_⟩
    · simp only [sA_uI]; exact ⟨(h789 7 (by simp)).trans a7, (h789 8 (by simp)).trans a8, (h789 9 (by simp)).trans a9⟩
    · rw [sI_uI, if_pos rfl, hI' 3 (by decide), i3]; exact t1
    · simp only [sA_uI]; exact ⟨b1, b2, b3, b4, b5, b6, b10, b11, b12⟩
  have rI : ∀ x, x ≠ 5 → sI (rcS w 0) x = sI w x := fun x hx => rcS_I hx
  have rE : Ev (rcS w 0) := hE.of (rI 0 (by decide)) (rI 1 (by decide)) (rI 4 (by decide))
  have KS : K1 (ss1 w 0) a b nf ps fl := by
    obtain ⟨k1, k2, k3, k4, k5, k6, k7, k8⟩ := hK
    unfold K1 ss1; rw [z0]; simp +decide only [sI_uA, sA_uA, false_and, ↓reduceIte]; exact ⟨k1, k2, k3, k4, k5, k6, k7, k8⟩
  have rmK : ∀ (v : St) (x : Nat) (_ : K1 v a b nf ps fl) (_ : sA v 4 0 = (if ps = 2 then 1 else 0)) (_ : sI v 2 = cp), x ≤ 2 → ¬ x = 0 → (rmm v 0 && wd v (Int32.ofNat fl) (dI x)) = wdC a b ps fl x := fun v x hv h4 h2 hx hx0 => by
    rw [wd_K hR hv (by omega) (by omega) (by omega)]
    cases e : wdC a b ps fl x with
    | false => rw [Bool.and_false]
    | true =>
      have := (of_decide_eq_true e).1
      unfold rmm; rw [z0, h4, h2, if_neg (by omega), decide_eq_true (by rw [lt32]; simp only [Int32.reduceToInt]; omega)]; rfl
  have nz : ∀ {u : Nat}, u ≤ 2 → ((dI u = 0) ↔ u = 0) := fun {u} hu => dI_i (v := 0) hu (by omega)
  have eT : ∀ x, (x = 7 ∨ x = 8 ∨ x = 9) → ¬ x = 3 ∧ ¬ x = 2 ∧ ¬ x = 5 ∧ ¬ x = 1 ∧ ¬ x = 6 ∧ ¬ x = 11 ∧ ¬ x = 4 ∧ ¬ x = 10 ∧ ¬ x = 12 := fun x hx => by omega
  unfold run1
  by_cases s0 : st = 0
  · rw [if_pos s0]; subst s0
    have er : rcS w 0 = ssS w 0 := by unfold rcS; rw [z0, a2]; rfl
    rw [er] at rI rE ⊢
    have s3 := rmK (ss1 w 0) (chC a b ps fl di) KS (by unfold ss1; rw [z0]; simp +decide only [sA_uA, false_and, ↓reduceIte]; exact a4) (by unfold ss1; rw [sI_uA]; exact i2) cle
    have s4 : ∀ (_ : ¬ chC a b ps fl di = 0), byd (ss1 w 0) 0 (dI (chC a b ps fl di)) = byC a b ps fl (chC a b ps fl di) := fun q => byd_K hR KS (by omega) (by omega) (by omega)
    revert rI rE
    unfold ssS; rw [hch, z0, a1]
    by_cases c0 : chC a b ps fl di = 0
    · rw [if_pos c0, if_pos ((nz cle).mpr c0)]
      intro rI rE
      refine fin _ _ _ _ _ _ _ _ rE rI (fun x hx => ?_) ?_ ?_ ?_ ?_ ?_ ?_ ?_ ?_ (fun q => ?_)
      · unfold ss1; rw [z0, sA_uA, if_neg (fun q => (eT x hx).1 q.1)]
      all_goals unfold ss1; rw [z0, hch]; simp +decide only [sA_uA, false_and, ↓reduceIte, and_self]
      · exact a1
      · exact a2
      · rw [c0]
      · exact a4
      · exact a5
      · exact a6
      · exact a10
      · exact a11
      · exact a12 q
    · rw [if_neg c0, if_neg (fun q => c0 ((nz cle).mp q)), s3 c0, s4 c0]
      by_cases c1 : wdC a b ps fl (chC a b ps fl di) = true
      · rw [if_pos c1, if_pos c1]
        intro rI rE
        refine fin _ _ _ _ _ _ _ _ rE rI (fun x hx => ?_) ?_ ?_ ?_ ?_ ?_ ?_ ?_ ?_ (fun q => ?_)
        · obtain ⟨e1, e2, e3, -⟩ := eT x hx
          unfold ss1; rw [z0, sA_uA, if_neg (fun q => e3 q.1), sA_uA, if_neg (fun q => e2 q.1), sA_uA, if_neg (fun q => e1 q.1)]
        all_goals unfold ss1; rw [z0, hch]; simp +decide only [sA_uA, false_and, ↓reduceIte, and_self]
        · exact a1
        · exact a4
        · exact a6
        · exact a10
        · exact a11
        · exact a12 q
      · rw [if_neg c1, if_neg c1]
        by_cases c2 : byC a b ps fl (chC a b ps fl di) = true
        · rw [if_pos c2, if_pos c2]
          intro rI rE
          refine fin _ _ _ _ _ _ _ _ rE rI (fun x hx => ?_) ?_ ?_ ?_ ?_ ?_ ?_ ?_ ?_ (fun q => ?_)
          · obtain ⟨e1, e2, e3, -⟩ := eT x hx
            unfold ss1; rw [z0, sA_uA, if_neg (fun q => e3 q.1), sA_uA, if_neg (fun q => e2 q.1), sA_uA, if_neg (fun q => e1 q.1)]
          all_goals unfold ss1; rw [z0, hch]; simp +decide only [sA_uA, false_and, ↓reduceIte, and_self]
          · exact a1
          · exact a4
          · exact a6
          · exact a10
          · exact a11
          · exact a12 q
        · rw [if_neg c2, if_neg c2]
          intro rI rE
          refine fin _ _ _ _ _ _ _ _ rE rI (fun x hx => ?_) ?_ ?_ ?_ ?_ ?_ ?_ ?_ ?_ (fun q => ?_)
          · unfold ss1; rw [z0, sA_uA, if_neg (fun q => (eT x hx).1 q.1)]
          all_goals unfold ss1; rw [z0, hch]; simp +decide only [sA_uA, false_and, ↓reduceIte, and_self]
          · exact a1
          · exact a2
          · exact a4
          · exact a5
          · exact a6
          · exact a10
          · exact a11
          · exact a12 q
  rw [if_neg s0]
  have n2 : ∀ {u : Nat}, u ≤ 3 → ((sA w 2 0 = Int32.ofNat u) ↔ st = u) := fun {u} hu => by rw [a2, of_i (by omega) (by omega)]
  have m0 : ¬ sA w 2 0 = 0 := fun q => s0 ((n2 (u := 0) (by omega)).mp q)
  by_cases s3 : st = 3
  · rw [if_pos s3]
    have er : rcS w 0 = smS w 0 := by unfold rcS; rw [z0, if_neg m0, if_pos (show sA w 2 0 = 3 from (n2 (u := 3) (by omega)).mpr s3)]
    rw [er] at rI rE ⊢
    obtain ⟨d12, d2f, dtm⟩ := o8 s3
    have d2 : di ≤ 2 := o3
    have tmI : (Int32.ofNat tm).toInt = tm := Int32.toInt_ofNat_of_lt (by omega)
    have tm1 : Int32.ofNat tm - 1 = Int32.ofNat (tm - 1) := by
      rw [eq32, isb (by rw [tmI]; simp only [Int32.reduceToInt]; omega) (by rw [tmI]; simp only [Int32.reduceToInt]; omega), tmI, Int32.toInt_ofNat_of_lt (by omega)]; simp only [Int32.reduceToInt]; omega
    have flI : (Int32.ofNat fl).toInt = fl := Int32.toInt_ofNat_of_lt (by omega)
    have nI : Int32.ofNat fl + dI di = Int32.ofNat (nfl fl di) := by
      unfold nfl; rcases d12 with e | e
      · rw [if_pos e, e, Int32.ofNat_add]; rfl
      · have := d2f e
        rw [if_neg (by omega), e, eq32, ia (by rw [flI]; simp +decide only [dI, ↓reduceIte, Int32.reduceToInt]; omega) (by rw [flI]; simp +decide only [dI, ↓reduceIte, Int32.reduceToInt]; omega), flI, Int32.toInt_ofNat_of_lt (by omega)]; simp +decide only [dI, ↓reduceIte, Int32.reduceToInt]; omega
    have nlt : nfl fl di < 1000 := by unfold nfl; split <;> omega
    have KM : K1 (sm2 w 0) a b nf ps (nfl fl di) := by
      obtain ⟨k1, k2, k3, k4, k5, k6, k7, k8⟩ := hK
      unfold K1 sm2 sm1 smf; rw [z0]; simp +decide only [sI_uA, sA_uA, false_and, ↓reduceIte, and_self]
      exact ⟨k1, k2, k3, k4, k5, k6, k7, by rw [a1, a3]; exact nI⟩
    have oc : opp di = 1 ∨ opp di = 2 := by unfold opp; split <;> simp
    have sp : smp w 0 = stopC a b ps (nfl fl di) di := by
      unfold smp stopC smf; rw [z0, a1, a3, nI, rd_K hR KM nlt (by omega), asg_K hR KM nlt d12 (by omega), dI_opp d12, asg_K hR KM nlt oc (by omega), byd_K hR KM d12 (by omega) nlt]
      cases e : wdC a b ps (nfl fl di) di with
      | false => rw [Bool.and_false]
      | true =>
        have := (of_decide_eq_true e).1
        have : rmm (sm2 w 0) 0 = true := by
          unfold rmm sm2 sm1; rw [z0]; simp +decide only [sI_uA, sA_uA, false_and, ↓reduceIte]
          rw [a4, i2, if_neg (by omega)]; exact decide_eq_true (by rw [lt32]; simp only [Int32.reduceToInt]; omega)
        rw [this]; rfl
    have by2 := byd_K hR KM d12 (by omega) nlt
    revert rI rE
    unfold smS; rw [z0, sp, a3, by2, a5]
    have g0 : (0 < Int32.ofNat tm - 1) ↔ 1 < tm := by rw [tm1, show (0 : Int32) = Int32.ofNat 0 from rfl, of_l (by omega) (by omega)]; omega
    by_cases c0 : 1 < tm
    · rw [if_pos c0, if_pos (g0.mpr c0)]
      intro rI rE
      refine fin _ _ _ _ _ _ _ _ rE rI (fun x hx => ?_) ?_ ?_ ?_ ?_ ?_ ?_ ?_ ?_ (fun q => ?_)
      · unfold sm1; rw [z0, sA_uA, if_neg (fun q => (eT x hx).2.2.1 q.1)]
      all_goals unfold sm1; rw [z0]; simp +decide only [sA_uA, false_and, ↓reduceIte, and_self]
      · exact a1
      · rw [a2, s3]
      · exact a3
      · exact a4
      · rw [a5]; exact tm1
      · exact a6
      · exact a10
      · exact a11
      · exact a12 q
    · rw [if_neg c0, if_neg (fun q => c0 (g0.mp q))]
      have f789 : ∀ x, (x = 7 ∨ x = 8 ∨ x = 9) → sA (sm2 w 0) x 0 = sA w x 0 := fun x hx => by
        obtain ⟨e1, e2, e3, e4, -⟩ := eT x hx
        unfold sm2 sm1; rw [z0, sA_uA, if_neg (fun q => e4 q.1), sA_uA, if_neg (fun q => e3 q.1)]
      have smf' : smf w 0 = Int32.ofNat (nfl fl di) := by unfold smf; rw [z0, a1, a3]; exact nI
      by_cases c1 : stopC a b ps (nfl fl di) di = true
      · rw [if_pos c1, if_pos c1]
        intro rI rE
        refine fin _ _ _ _ _ _ _ _ rE rI (fun x hx => ?_) ?_ ?_ ?_ ?_ ?_ ?_ ?_ ?_ (fun q => ?_)
        · obtain ⟨e1, e2, e3, -⟩ := eT x hx
          rw [sA_uA, if_neg (fun q => e3 q.1), sA_uA, if_neg (fun q => e2 q.1)]; exact f789 x hx
        all_goals unfold sm2 sm1; rw [z0]; simp +decide only [sA_uA, false_and, ↓reduceIte, and_self]
        · exact smf'
        · exact a3
        · exact a4
        · exact a6
        · exact a10
        · exact a11
        · exact a12 q
      · rw [if_neg c1, if_neg c1]
        by_cases c2 : byC a b ps (nfl fl di) di = true
        · rw [if_pos c2, if_pos c2]
          intro rI rE
          refine fin _ _ _ _ _ _ _ _ rE rI (fun x hx => ?_) ?_ ?_ ?_ ?_ ?_ ?_ ?_ ?_ (fun q => ?_)
          · obtain ⟨e1, e2, e3, -⟩ := eT x hx
            rw [sA_uA, if_neg (fun q => e3 q.1)]; exact f789 x hx
          all_goals unfold sm2 sm1; rw [z0]; simp +decide only [sA_uA, false_and, ↓reduceIte, and_self]
          · exact smf'
          · rw [a2, s3]
          · exact a3
          · exact a4
          · exact a6
          · exact a10
          · exact a11
          · exact a12 q
        · rw [if_neg c2, if_neg c2]
          intro rI rE
          refine fin _ _ _ _ _ _ _ _ rE rI (fun x hx => ?_) ?_ ?_ ?_ ?_ ?_ ?_ ?_ ?_ (fun q => ?_)
          · obtain ⟨e1, e2, e3, -⟩ := eT x hx
            rw [sA_uA, if_neg (fun q => e3 q.1), sA_uA, if_neg (fun q => e2 q.1)]; exact f789 x hx
          all_goals unfold sm2 sm1; rw [z0]; simp +decide only [sA_uA, false_and, ↓reduceIte, and_self]
          · exact smf'
          · exact a3
          · exact a4
          · exact a6
          · exact a10
          · exact a11
          · exact a12 q
  rw [if_neg s3]
  have m3 : ¬ sA w 2 0 = 3 := fun q => s3 ((n2 (u := 3) (by omega)).mp q)
  by_cases s1 : st = 1
  · rw [if_pos s1]
    obtain ⟨dtm, dt⟩ := o9 s1
    have er : rcS w 0 = soS w 0 := by unfold rcS; rw [z0, if_neg m0, if_neg m3, if_pos (show sA w 2 0 = 1 from (n2 (u := 1) (by omega)).mpr s1)]
    rw [er] at rI rE ⊢
    have tT : Int32.ofNat t = tI t := by unfold tI; rw [if_neg (by omega)]
    have rf : rdF w 0 (Int32.ofNat fl) 0 = decide (ps = 2 ∧ fl = b) := by
      have := rd_K (g := fl) hR hK (by omega) (by omega)
      unfold rd at this; rw [pc_K i4] at this; simp only [anyN] at this
      rw [← this]; cases rdF w 0 (Int32.ofNat fl) 0 <;> rfl
    have dv : dlv w 0 = if ps = 2 ∧ fl = b then (1, dl1 w 0 0) else (0, w) := by
      unfold dlv; rw [pc_K i4, z0, a1]; simp only [dlF]; rw [rf]
      by_cases q : ps = 2 ∧ fl = b
      · rw [if_pos q, decide_eq_true q]; rfl
      · rw [if_neg q, decide_eq_false q]; rfl
    by_cases c0 : ps = 2 ∧ fl = b
    · rw [if_pos c0] at dv ⊢
      have e1 : so1 w 0 = dl1 w 0 0 := by unfold so1; rw [dv]
      have x3 : sA (dl1 w 0 0) 3 0 = dI di := (dl1_A (by decide)).trans a3
      have K3 : K1 (dl1 w 0 0) a b nf 3 fl := by
        obtain ⟨k1, k2, k3, k4, k5, k6, k7, k8⟩ := hK
        refine ⟨(dl1_I (by decide)).trans k1, (dl1_I (by decide)).trans k2, ?_, (dl1_A (by decide)).trans k4, (dl1_A (by decide)).trans k5, fun _ => (dl1_A (by decide)).trans (k6 (by omega)), fun q => absurd q (by decide), (dl1_A (by decide)).trans k8⟩
        exact (dl1_me (s := w) (c := 0) (i := 0)).1
      have c3 : chC a b 3 fl di = 0 := by unfold chC byC wdC; simp
      have hc := chs_K hR K3 x3 o3 (by omega) (by omega)
      rw [c3] at hc
      have e2 : so2 w 0 = uA (dl1 w 0 0) 3 0 0 := by unfold so2; rw [e1, hc, z0]; rfl
      have e3 : so3 w 0 = uA (dl1 w 0 0) 3 0 0 := by unfold so3; rw [e1, hc, if_pos (by decide)]; exact e2
      have e4 : soc w 0 = true := by unfold soc; rw [dv]; exact decide_eq_true (Or.inl (show ¬ (1 : Int32) = 0 by decide))
      revert rI rE
      unfold soS; rw [if_pos e4, e3, z0]
      intro rI rE
      obtain ⟨u6, u10, u11, u12⟩ := dl1_me (s := w) (c := 0) (i := 0)
      refine fin _ _ _ _ _ _ _ _ rE rI (fun x hx => ?_) ?_ ?_ ?_ ?_ ?_ ?_ ?_ ?_ (fun q => ?_)
      · obtain ⟨e1, e2, e3, e4, e5, e6, e7, -⟩ := eT x hx
        rw [sA_uA, if_neg (fun q => e3 q.1), sA_uA, if_neg (fun q => e1 q.1)]; exact dl1_A ⟨e5, e6, e7⟩
      all_goals simp +decide only [sA_uA, false_and, ↓reduceIte, and_self]
      · exact (dl1_A (by decide)).trans a1
      · rw [dl1_A (by decide), a2, s1]
      · unfold dl1; rw [z0]; simp +decide only [sA_uI, sA_uA, false_and, ↓reduceIte, and_self]; rw [a4, if_pos c0.1]; rfl
      · exact u6
      · exact u10.trans a10
      · rw [u11, i3]; exact tT
      · exact u12.trans (a12 (by omega))
    · rw [if_neg c0] at dv ⊢
      have e1 : so1 w 0 = w := by unfold so1; rw [dv]
      have e2 : so2 w 0 = ss1 w 0 := by unfold so2 ss1; rw [e1]
      have x4 : sA (ss1 w 0) 4 0 = (if ps = 2 then 1 else 0) := by unfold ss1; rw [z0]; simp +decide only [sA_uA, false_and, ↓reduceIte]; exact a4
      have x2 : sI (ss1 w 0) 2 = cp := by unfold ss1; rw [sI_uA]; exact i2
      have x1 : sA (ss1 w 0) 1 0 = Int32.ofNat fl := by unfold ss1; rw [z0]; simp +decide only [sA_uA, false_and, ↓reduceIte]; exact a1
      have x44 : sI (ss1 w 0) 4 = 1 := by unfold ss1; rw [sI_uA]; exact i4
      have s3' := rmK (ss1 w 0) (chC a b ps fl di) KS x4 x2 cle
      have bv : ¬ chC a b ps fl di = 0 → brd (ss1 w 0) 0 (dI (chC a b ps fl di)) = if wdC a b ps fl (chC a b ps fl di) = true then (1, bd1 (ss1 w 0) 0 0) else (0, ss1 w 0) := fun q => by
        have wf : wd (ss1 w 0) (Int32.ofNat fl) (dI (chC a b ps fl di)) = wdF (ss1 w 0) (Int32.ofNat fl) (dI (chC a b ps fl di)) 0 := by
          unfold wd; rw [pc_K x44]; simp only [anyN]; cases wdF (ss1 w 0) (Int32.ofNat fl) (dI (chC a b ps fl di)) 0 <;> rfl
        have s4 := s3' q
        rw [wf] at s4
        unfold brd; rw [pc_K x44, z0, x1]; simp only [bdF]
        rw [← s4]
        cases rmm (ss1 w 0) 0 <;> cases wdF (ss1 w 0) (Int32.ofNat fl) (dI (chC a b ps fl di)) 0 <;> rfl
      by_cases c1 : wdC a b ps fl (chC a b ps fl di) = true
      · rw [if_pos c1]
        have q0 : ¬ chC a b ps fl di = 0 := fun q => by rw [q, wdC_0] at c1; cases c1
        have bv' := bv q0
        rw [if_pos c1] at bv'
        have n0' : ¬ chs w 0 = 0 := by rw [hch]; exact fun q => q0 ((nz cle).mp q)
        have e3 : so3 w 0 = bd1 (ss1 w 0) 0 0 := by unfold so3; rw [e1, if_neg n0', e2, hch, bv']
        have e4 : soc w 0 = true := by unfold soc; rw [dv, e1, e2, hch, bv']; exact decide_eq_true (Or.inr ⟨by rw [← hch]; exact n0', show ¬ (1 : Int32) = 0 by decide⟩)
        have ps1 := (of_decide_eq_true c1).1
        revert rI rE
        unfold soS; rw [if_pos e4, e3, z0]
        intro rI rE
        obtain ⟨u6, u10, u11, u12⟩ := bd1_me (s := ss1 w 0) (c := 0) (i := 0)
        have y : ∀ t j, t ≠ 3 → sA (ss1 w 0) t j = sA w t j := fun t j ht => by unfold ss1; rw [sA_uA, if_neg (fun q => ht q.1)]
        refine fin _ _ _ _ _ _ _ _ rE rI (fun x hx => ?_) ?_ ?_ ?_ ?_ ?_ ?_ ?_ ?_ (fun q => ?_)
        · obtain ⟨e1, e2, e3, e4, e5, e6, e7, e8, e9⟩ := eT x hx
          rw [sA_uA, if_neg (fun q => e3 q.1), bd1_A ⟨e5, e8, e9, e7⟩]; exact y x 0 e1
        all_goals simp +decide only [sA_uA, false_and, ↓reduceIte, and_self]
        · exact (bd1_A (by decide)).trans x1
        · rw [bd1_A (by decide), y 2 0 (by decide), a2, s1]
        · rw [bd1_A (by decide)]; unfold ss1; rw [z0, sA_uA, if_pos ⟨rfl, rfl⟩]; exact hch
        · unfold bd1; rw [z0]; simp +decide only [sA_uA, false_and, ↓reduceIte, and_self]; rw [x4, if_neg (by omega)]; rfl
        · exact u6
        · rw [u10]; unfold ss1; rw [sI_uA, i3]; exact tT
        · rw [u11, y 11 0 (by decide)]; exact a11
        · exact u12
      · rw [if_neg c1]
        have e3 : so3 w 0 = ss1 w 0 := by
          unfold so3; rw [e1]; split
          · exact e2
          · rename_i q
            have q0 : ¬ chC a b ps fl di = 0 := fun z => q (by rw [hch, z]; rfl)
            rw [e2, hch, bv q0, if_neg c1]
        have e4 : ¬ soc w 0 = true := by
          unfold soc; rw [dv, e1, e2, hch]
          intro q
          rcases of_decide_eq_true q with q | ⟨q, q'⟩
          · exact q rfl
          · rw [bv (fun z => q (by rw [z]; rfl)), if_neg c1] at q'; exact q' rfl
        have tmI : (Int32.ofNat tm).toInt = tm := Int32.toInt_ofNat_of_lt (by omega)
        have tm1 : Int32.ofNat tm - 1 = Int32.ofNat (tm - 1) := by
          rw [eq32, isb (by rw [tmI]; simp only [Int32.reduceToInt]; omega) (by rw [tmI]; simp only [Int32.reduceToInt]; omega), tmI, Int32.toInt_ofNat_of_lt (by omega)]; simp only [Int32.reduceToInt]; omega
        have y : ∀ t j, t ≠ 3 → sA (ss1 w 0) t j = sA w t j := fun t j ht => by unfold ss1; rw [sA_uA, if_neg (fun q => ht q.1)]
        have y3 : sA (ss1 w 0) 3 0 = dI (chC a b ps fl di) := by unfold ss1; rw [z0, sA_uA, if_pos ⟨rfl, rfl⟩]; exact hch
        have y5 : sA (ss1 w 0) 5 0 - 1 = Int32.ofNat (tm - 1) := by rw [y 5 0 (by decide), a5]; exact tm1
        have g1 : (Int32.ofNat (tm - 1) = 0) ↔ tm = 1 := by rw [show (0 : Int32) = Int32.ofNat 0 from rfl, of_i (by omega) (by omega)]; omega
        revert rI rE
        unfold soS; rw [if_neg e4, e3, z0, y5]
        by_cases c2 : tm = 1
        · rw [if_pos c2, if_pos (g1.mpr c2)]
          intro rI rE
          refine fin _ _ _ _ _ _ _ _ rE rI (fun x hx => ?_) ?_ ?_ ?_ ?_ ?_ ?_ ?_ ?_ (fun q => ?_)
          · obtain ⟨e1, e2, e3, -⟩ := eT x hx
            unfold so4; rw [z0, sA_uA, if_neg (fun q => e2 q.1), sA_uA, if_neg (fun q => e3 q.1)]; exact y x 0 e1
          all_goals unfold so4; rw [z0]; simp +decide only [sA_uA, false_and, ↓reduceIte, and_self]
          · exact x1
          · exact y3
          · exact x4
          · rw [y5, c2]
          · rw [y 6 0 (by decide)]; exact a6
          · rw [y 10 0 (by decide)]; exact a10
          · rw [y 11 0 (by decide)]; exact a11
          · rw [y 12 0 (by decide)]; exact a12 q
        · rw [if_neg c2, if_neg (fun q => c2 (g1.mp q))]
          intro rI rE
          refine fin _ _ _ _ _ _ _ _ rE rI (fun x hx => ?_) ?_ ?_ ?_ ?_ ?_ ?_ ?_ ?_ (fun q => ?_)
          · obtain ⟨e1, e2, e3, -⟩ := eT x hx
            unfold so4; rw [z0, sA_uA, if_neg (fun q => e3 q.1)]; exact y x 0 e1
          all_goals unfold so4; rw [z0]; simp +decide only [sA_uA, false_and, ↓reduceIte, and_self]
          · exact x1
          · rw [y 2 0 (by decide), a2, s1]
          · exact y3
          · exact x4
          · exact y5
          · rw [y 6 0 (by decide)]; exact a6
          · rw [y 10 0 (by decide)]; exact a10
          · rw [y 11 0 (by decide)]; exact a11
          · rw [y 12 0 (by decide)]; exact a12 q
  rw [if_neg s1]
  have s2 : st = 2 := by omega
  have m1 : ¬ sA w 2 0 = 1 := fun q => s1 ((n2 (u := 1) (by omega)).mp q)
  have er : rcS w 0 = scS w 0 := by unfold rcS; rw [z0, if_neg m0, if_neg m3, if_neg m1, if_pos (show sA w 2 0 = 2 from (n2 (u := 2) (by omega)).mpr s2)]
  rw [er] at rI rE ⊢
  have x4 : sA (ss1 w 0) 4 0 = (if ps = 2 then 1 else 0) := by unfold ss1; rw [z0]; simp +decide only [sA_uA, false_and, ↓reduceIte]; exact a4
  have x2 : sI (ss1 w 0) 2 = cp := by unfold ss1; rw [sI_uA]; exact i2
  have s3' := rmK (ss1 w 0) (chC a b ps fl di) KS x4 x2 cle
  have y : ∀ t j, t ≠ 3 → sA (ss1 w 0) t j = sA w t j := fun t j ht => by unfold ss1; rw [sA_uA, if_neg (fun q => ht q.1)]
  have y3 : sA (ss1 w 0) 3 0 = dI (chC a b ps fl di) := by unfold ss1; rw [z0, sA_uA, if_pos ⟨rfl, rfl⟩]; exact hch
  have cond : (¬ chs w 0 = 0 ∧ (rmm (ss1 w 0) 0 && wd (ss1 w 0) (sA w 1 0) (chs w 0)) = true) ↔ wdC a b ps fl (chC a b ps fl di) = true := by
    rw [hch, a1]
    by_cases q : chC a b ps fl di = 0
    · rw [q, wdC_0]; exact ⟨fun z => absurd rfl z.1, fun z => by cases z⟩
    · rw [s3' q]; exact ⟨fun z => z.2, fun z => ⟨fun z' => q ((nz cle).mp z'), z⟩⟩
  revert rI rE
  unfold scS; rw [z0]
  by_cases c1 : wdC a b ps fl (chC a b ps fl di) = true
  · rw [if_pos c1, if_pos (cond.mpr c1)]
    intro rI rE
    refine fin _ _ _ _ _ _ _ _ rE rI (fun x hx => ?_) ?_ ?_ ?_ ?_ ?_ ?_ ?_ ?_ (fun q => ?_)
    · obtain ⟨e1, e2, e3, -⟩ := eT x hx
      rw [sA_uA, if_neg (fun q => e3 q.1), sA_uA, if_neg (fun q => e2 q.1)]; exact y x 0 e1
    all_goals simp +decide only [sA_uA, false_and, ↓reduceIte, and_self]
    · rw [y 1 0 (by decide)]; exact a1
    · exact y3
    · exact x4
    · rw [y 6 0 (by decide)]; exact a6
    · rw [y 10 0 (by decide)]; exact a10
    · rw [y 11 0 (by decide)]; exact a11
    · rw [y 12 0 (by decide)]; exact a12 q
  · rw [if_neg c1, if_neg (fun q => c1 (cond.mp q))]
    intro rI rE
    refine fin _ _ _ _ _ _ _ _ rE rI (fun x hx => ?_) ?_ ?_ ?_ ?_ ?_ ?_ ?_ ?_ (fun q => ?_)
    · obtain ⟨e1, e2, e3, -⟩ := eT x hx
      rw [sA_uA, if_neg (fun q => e3 q.1), sA_uA, if_neg (fun q => e2 q.1)]; exact y x 0 e1
    all_goals simp +decide only [sA_uA, false_and, ↓reduceIte, and_self]
    · rw [y 1 0 (by decide)]; exact a1
    · exact y3
    · exact x4
    · rw [y 6 0 (by decide)]; exact a6
    · rw [y 10 0 (by decide)]; exact a10
    · rw [y 11 0 (by decide)]; exact a11
    · rw [y 12 0 (by decide)]; exact a12 q
def stp5 (a b : Nat) (c : Cf) : Cf := run1 a b c.1 c.2.1 c.2.2.1 c.2.2.2.1 c.2.2.2.2.1 (if c.2.2.2.2.2.1 = 0 then 1 else c.2.2.2.2.2.1) c.2.2.2.2.2.2.1 c.2.2.2.2.2.2.2
def ok5 (c : Cf) : Bool := okC c.1 c.2.1 c.2.2.1 c.2.2.2.1 c.2.2.2.2.1 c.2.2.2.2.2.1
def itC (a b : Nat) : Nat → Cf → Cf
  | 0, c => c
  | m + 1, c => itC a b m (stp5 a b c)
def okN (a b : Nat) : Nat → Cf → Bool
  | 0, _ => true
  | m + 1, c => ok5 c && okN a b m (stp5 a b c)
theorem itC_add : ∀ (m n : Nat) (c : Cf), itC a b (m + n) c = itC a b n (itC a b m c)
  | 0, n, c => by rw [Nat.zero_add]; rfl
  | m + 1, n, c => by rw [Nat.succ_add, itC, itC_add m n, itC]
theorem okN_add : ∀ (m n : Nat) (c : Cf), okN a b (m + n) c = true → okN a b m c = true ∧ okN a b n (itC a b m c) = true
  | 0, n, c, h => by rw [Nat.zero_add] at h; exact ⟨rfl, h⟩
  | m + 1, n, c, h => by
    rw [Nat.succ_add, okN, Bool.and_eq_true] at h
    obtain ⟨h1, h2⟩ := okN_add m n _ h.2
    exact ⟨by rw [okN, h.1, h1]; rfl, h2⟩
theorem tick5 {c : Cf} (hR : R1 a b nf) (hcp : 1 ≤ cp.toInt) (h : CX5 s a b nf cp c) (ho : ok5 c = true) : CX5 (tkS s) a b nf cp (stp5 a b c) := by
  obtain ⟨o1, o2, o3, o4, o5, o6, o7, o8, o9⟩ := of_decide_eq_true ho
  obtain ⟨h1, h2⟩ := CC_1 hR h o6 o7
  have ho' : okC c.1 c.2.1 c.2.2.1 c.2.2.2.1 c.2.2.2.2.1 (if c.2.2.2.2.2.1 = 0 then 1 else c.2.2.2.2.2.1) = true := decide_eq_true ⟨o1, o2, o3, o4, o5, by split <;> omega, fun q => by split at q <;> omega, o8, o9⟩
  have r := CC_2 hR hcp h1 h2 ho' (by split <;> omega)
  have e : tk2 s = rcS (tk1 s) 0 := by
    have : sI s 0 = 1 := h.2.1.1
    unfold tk2; rw [this]; rfl
  unfold tkS; rw [e]; exact r
theorem sim5 (hR : R1 a b nf) (hcp : 1 ≤ cp.toInt) : ∀ (m : Nat) (s : St) (c : Cf), CX5 s a b nf cp c → okN a b m c = true → CX5 (tkF m s) a b nf cp (itC a b m c)
  | 0, s, c, h, _ => h
  | m + 1, s, c, h, ho => by
    rw [okN, Bool.and_eq_true] at ho
    exact sim5 hR hcp m (tkS s) _ (tick5 hR hcp h ho.1) ho.2
def bdv (a : Nat) : Nat := if a = 0 then 1 else 2 * a + 2
def dlv5 (a b : Nat) : Nat := bdv a + 7 + 2 * (if a < b then b - a else a - b)
def ini5 : Cf := (0, 0, 0, 0, 0, 0, 0, 0)
def fin5 (a b : Nat) (c : Cf) : Bool := Nat.beq c.1 96 && (Nat.beq c.2.1 b && (Nat.beq c.2.2.1 0 && (Nat.beq c.2.2.2.1 0 && (Nat.beq c.2.2.2.2.1 0 && (Nat.beq c.2.2.2.2.2.1 3 && (Nat.beq c.2.2.2.2.2.2.1 (bdv a) && Nat.beq c.2.2.2.2.2.2.2 (dlv5 a b)))))))
theorem dA0 : ∀ b : Fin 16, b.val ≠ 0 → (okN 0 b.val 96 ini5 && fin5 0 b.val (itC 0 b.val 96 ini5)) = true := by decide +kernel
theorem dA1 : ∀ b : Fin 16, b.val ≠ 1 → (okN 1 b.val 96 ini5 && fin5 1 b.val (itC 1 b.val 96 ini5)) = true := by decide +kernel
theorem dA2 : ∀ b : Fin 16, b.val ≠ 2 → (okN 2 b.val 96 ini5 && fin5 2 b.val (itC 2 b.val 96 ini5)) = true := by decide +kernel
theorem dA3 : ∀ b : Fin 16, b.val ≠ 3 → (okN 3 b.val 96 ini5 && fin5 3 b.val (itC 3 b.val 96 ini5)) = true := by decide +kernel
theorem dA4 : ∀ b : Fin 16, b.val ≠ 4 → (okN 4 b.val 96 ini5 && fin5 4 b.val (itC 4 b.val 96 ini5)) = true := by decide +kernel
theorem dA5 : ∀ b : Fin 16, b.val ≠ 5 → (okN 5 b.val 96 ini5 && fin5 5 b.val (itC 5 b.val 96 ini5)) = true := by decide +kernel
theorem dA6 : ∀ b : Fin 16, b.val ≠ 6 → (okN 6 b.val 96 ini5 && fin5 6 b.val (itC 6 b.val 96 ini5)) = true := by decide +kernel
theorem dA7 : ∀ b : Fin 16, b.val ≠ 7 → (okN 7 b.val 96 ini5 && fin5 7 b.val (itC 7 b.val 96 ini5)) = true := by decide +kernel
theorem dA8 : ∀ b : Fin 16, b.val ≠ 8 → (okN 8 b.val 96 ini5 && fin5 8 b.val (itC 8 b.val 96 ini5)) = true := by decide +kernel
theorem dA9 : ∀ b : Fin 16, b.val ≠ 9 → (okN 9 b.val 96 ini5 && fin5 9 b.val (itC 9 b.val 96 ini5)) = true := by decide +kernel
theorem dA10 : ∀ b : Fin 16, b.val ≠ 10 → (okN 10 b.val 96 ini5 && fin5 10 b.val (itC 10 b.val 96 ini5)) = true := by decide +kernel
theorem dA11 : ∀ b : Fin 16, b.val ≠ 11 → (okN 11 b.val 96 ini5 && fin5 11 b.val (itC 11 b.val 96 ini5)) = true := by decide +kernel
theorem dA12 : ∀ b : Fin 16, b.val ≠ 12 → (okN 12 b.val 96 ini5 && fin5 12 b.val (itC 12 b.val 96 ini5)) = true := by decide +kernel
theorem dA13 : ∀ b : Fin 16, b.val ≠ 13 → (okN 13 b.val 96 ini5 && fin5 13 b.val (itC 13 b.val 96 ini5)) = true := by decide +kernel
theorem dA14 : ∀ b : Fin 16, b.val ≠ 14 → (okN 14 b.val 96 ini5 && fin5 14 b.val (itC 14 b.val 96 ini5)) = true := by decide +kernel
theorem dA15 : ∀ b : Fin 16, b.val ≠ 15 → (okN 15 b.val 96 ini5 && fin5 15 b.val (itC 15 b.val 96 ini5)) = true := by decide +kernel
theorem dA (ha : a < 16) (hb : b < 16) (h : a ≠ b) : okN a b 96 ini5 = true ∧ itC a b 96 ini5 = (96, b, 0, 0, 0, 3, bdv a, dlv5 a b) := by
  have q : (okN a b 96 ini5 && fin5 a b (itC a b 96 ini5)) = true := by
    have h' : b ≠ a := fun e => h e.symm
    rcases (show a = 0 ∨ a = 1 ∨ a = 2 ∨ a = 3 ∨ a = 4 ∨ a = 5 ∨ a = 6 ∨ a = 7 ∨ a = 8 ∨ a = 9 ∨ a = 10 ∨ a = 11 ∨ a = 12 ∨ a = 13 ∨ a = 14 ∨ a = 15 by omega) with rfl | rfl | rfl | rfl | rfl | rfl | rfl | rfl | rfl | rfl | rfl | rfl | rfl | rfl | rfl | rfl
    · exact dA0 ⟨b, hb⟩ h'
    · exact dA1 ⟨b, hb⟩ h'
    · exact dA2 ⟨b, hb⟩ h'
    · exact dA3 ⟨b, hb⟩ h'
    · exact dA4 ⟨b, hb⟩ h'
    · exact dA5 ⟨b, hb⟩ h'
    · exact dA6 ⟨b, hb⟩ h'
    · exact dA7 ⟨b, hb⟩ h'
    · exact dA8 ⟨b, hb⟩ h'
    · exact dA9 ⟨b, hb⟩ h'
    · exact dA10 ⟨b, hb⟩ h'
    · exact dA11 ⟨b, hb⟩ h'
    · exact dA12 ⟨b, hb⟩ h'
    · exact dA13 ⟨b, hb⟩ h'
    · exact dA14 ⟨b, hb⟩ h'
    · exact dA15 ⟨b, hb⟩ h'
  rw [Bool.and_eq_true] at q
  refine ⟨q.1, ?_⟩
  have f := q.2
  generalize itC a b 96 ini5 = c at *
  obtain ⟨c1, c2, c3, c4, c5, c6, c7, c8⟩ := c
  unfold fin5 at f; simp only [Bool.and_eq_true] at f
  obtain ⟨f1, f2, f3, f4, f5, f6, f7, f8⟩ := f
  have e1 := Nat.eq_of_beq_eq_true f1; have e2 := Nat.eq_of_beq_eq_true f2; have e3 := Nat.eq_of_beq_eq_true f3; have e4 := Nat.eq_of_beq_eq_true f4
  have e5 := Nat.eq_of_beq_eq_true f5; have e6 := Nat.eq_of_beq_eq_true f6; have e7 := Nat.eq_of_beq_eq_true f7; have e8 := Nat.eq_of_beq_eq_true f8
  exact Prod.ext e1 (Prod.ext e2 (Prod.ext e3 (Prod.ext e4 (Prod.ext e5 (Prod.ext e6 (Prod.ext e7 e8))))))
theorem CX5_5 {v : Int32} {c : Cf} (h : CX5 s a b nf cp c) : CX5 (uI s 5 v) a b nf cp c := by
  obtain ⟨hE, ⟨i0, i1, i2, i4⟩, ⟨a7, a8, a9⟩, i3, r⟩ := h
  refine ⟨Ev5 hE, ⟨by rw [I_5 (by decide)]; exact i0, by rw [I_5 (by decide)]; exact i1, by rw [I_5 (by decide)]; exact i2, by rw [I_5 (by decide)]; exact i4⟩, ?_, by rw [I_5 (by decide)]; exact i3, ?_⟩
  · simp only [sA_uI]; exact ⟨a7, a8, a9⟩
  · simp only [sA_uI]; exact r
theorem st5 {c : Cf} (hR : R1 a b nf) (hcp : 1 ≤ cp.toInt) (h : CX5 s a b nf cp c) (ho : okN a b 32 c = true) : CX5 (stS s 32) a b nf cp (itC a b 32 c) := by
  have e : stS s 32 = tkF 32 (uI s 5 0) := by unfold stS; rw [show (cl 1 32 32).toInt.toNat = 32 from by decide]
  rw [e]; exact sim5 hR hcp 32 _ c (CX5_5 h) ho
theorem bkt_n {m : Nat} (hm : m < 1000) : (m < 28 → Int32.ofNat m < 28 ∧ Int32.ofNat m / 4 = Int32.ofNat (m / 4)) ∧ (¬ m < 28 → ¬ Int32.ofNat m < 28) := by
  have key : ∀ j : Fin 28, Int32.ofNat j.val / 4 = Int32.ofNat (j.val / 4) := by decide +kernel
  refine ⟨fun h => ⟨(of_l (v := 28) hm (by omega)).mpr h, key ⟨m, h⟩⟩, fun h q => h ((of_l (v := 28) hm (by omega)).mp q)⟩
set_option maxRecDepth 100000 in
set_option maxHeartbeats 4000000 in
theorem law_ok (i0 i1 i2 i3 : Int32) (N : Nat) : Cl (pj lw) 100 [.int i0, .int i1, .int i2, .int i3] (H0 N) (fun v _ => v = some (.int 1)) := by
  have e1 : (H0 N).1 = N := rfl
  have c14 : cl 1 4 1 = 1 := by decide
  rw [c100]
  simp +decide only [w100_0, w100_3, w100_4, w100_5, w100_6, w100_7, w100_10, isO_put, cs_nil, cs_ref, Option.toList_none, List.nil_append, true_and, and_true, Nat.reduceAdd, Nat.reduceLeDiff, Int32.reduceAdd, Int64.reduceAdd, Nat.add_zero, Nat.zero_add, mkO_ob, e1, t1]
  have hF := cl_rg (lo := 2) (hi := 16) i0 (by decide)
  have hP := cl_rg (lo := 1) (hi := 8) i1 (by decide)
  simp only [Int32.reduceToInt] at hF hP
  have j0 : sI (ini0 1 i0 i1) 0 = 1 ∧ sI (ini0 1 i0 i1) 1 = cl 2 16 i0 ∧ sI (ini0 1 i0 i1) 2 = cl 1 8 i1 ∧ sI (ini0 1 i0 i1) 3 = 0 ∧ sI (ini0 1 i0 i1) 4 = 0 := by simp +decide only [ini0, sI_uI, sI_fA, sI_z0, and_true, ↓reduceIte]
  have a0 : ∀ t i, t ≠ 13 → sA (ini0 1 i0 i1) t i = 0 := fun t i ht => by simp +decide only [ini0, sA_uI, sA_fA, sA_z0, false_and, ↓reduceIte, ht]
  have E0 : Ev (ini0 1 i0 i1) := Ev_ini
  generalize ini0 1 i0 i1 = s0 at *
  obtain ⟨q0, q1, q2, q3, q4⟩ := j0
  generalize (N + 14, (H0 N).2) = HH
  have main : ∀ (nf : Int32), nf = cl 2 16 i0 → W (pj lw) 100 35 [.val (.int i0), .val (.int i1), .val (.int i2), .val (.int i3), .val (.ref N), .val (.int nf), .unset, .unset, .unset, .unset, .unset, .unset, .unset, .unset, .unset, .unset, .unset, .unset, .unset, .unset, .unset, .unset, .unset, .unset, .unset, .unset, .unset, .unset, .unset, .unset] [] 14 295 (ob HH N s0) (fun v _ => v = some (.int 1)) := by
    intro nf hnf
    rw [← hnf] at q1 hF
    have n32 : ¬ ¬ sI s0 4 < 32 := by rw [q4]; decide
    have bad : ((i2 < 0 ∨ ¬ i2 < nf) ∨ (i3 < 0 ∨ ¬ i3 < nf) ∨ i2 = i3) → apR s0 0 i2 i3 = -2 ∧ apS s0 0 i2 i3 = s0 := fun h => by
      have e : apR s0 0 i2 i3 = -2 := by unfold apR; rw [q1, if_neg n32, if_pos h]
      exact ⟨e, by unfold apS; rw [e]; rfl⟩
    have T2 := fun (Q : Option Value → AH → Prop) => t2 (lw := lw) (H := HH) (p := N) (Q := Q) (a := 0) (b := i2) (c := i3) E0
    by_cases c1 : i2 < 0
    · obtain ⟨r1, r2⟩ := bad (Or.inl (Or.inl c1))
      simp +decide only [w100_35, w100_37, w100_38, w100_39, w100_40, w100_43, w100_45, w100_46, w100_70, w100_72, w100_75, w100_77, w100_79, w100_81, w100_84, w100_86, w100_89, w100_90, w100_94, isO_put, Option.toList_some, List.cons_append, List.nil_append, and_true, ↓reduceIte, T2, r1, r2, c1, t6, q4]
    by_cases c2 : i2 < nf
    rotate_left
    · obtain ⟨r1, r2⟩ := bad (Or.inl (Or.inr c2))
      simp +decide only [w100_35, w100_37, w100_38, w100_39, w100_40, w100_43, w100_45, w100_46, w100_49, w100_50, w100_52, w100_70, w100_72, w100_75, w100_77, w100_79, w100_81, w100_84, w100_86, w100_89, w100_90, w100_94, isO_put, Option.toList_some, List.cons_append, List.nil_append, and_true, ↓reduceIte, T2, r1, r2, c1, c2, t6, q4]
    by_cases c3 : i3 < 0
    · obtain ⟨r1, r2⟩ := bad (Or.inr (Or.inl (Or.inl c3)))
      simp +decide only [w100_35, w100_37, w100_38, w100_39, w100_40, w100_43, w100_45, w100_46, w100_49, w100_50, w100_52, w100_55, w100_56, w100_70, w100_72, w100_75, w100_77, w100_79, w100_81, w100_84, w100_86, w100_89, w100_90, w100_94, isO_put, Option.toList_some, List.cons_append, List.nil_append, and_true, ↓reduceIte, T2, r1, r2, c1, c2, c3, t6, q4]
    by_cases c4 : i3 < nf
    rotate_left
    · obtain ⟨r1, r2⟩ := bad (Or.inr (Or.inl (Or.inr c4)))
      simp +decide only [w100_35, w100_37, w100_38, w100_39, w100_40, w100_43, w100_45, w100_46, w100_49, w100_50, w100_52, w100_55, w100_56, w100_59, w100_60, w100_62, w100_70, w100_72, w100_75, w100_77, w100_79, w100_81, w100_84, w100_86, w100_89, w100_90, w100_94, isO_put, Option.toList_some, List.cons_append, List.nil_append, and_true, ↓reduceIte, T2, r1, r2, c1, c2, c3, c4, t6, q4]
    by_cases c5 : i2 = i3
    · obtain ⟨r1, r2⟩ := bad (Or.inr (Or.inr c5))
      have c5' := eq_true c5
      simp +decide only [w100_35, w100_37, w100_38, w100_39, w100_40, w100_43, w100_45, w100_46, w100_49, w100_50, w100_52, w100_55, w100_56, w100_59, w100_60, w100_62, w100_65, w100_66, w100_67, w100_70, w100_72, w100_75, w100_77, w100_79, w100_81, w100_84, w100_86, w100_89, w100_90, w100_94, isO_put, Option.toList_some, List.cons_append, List.nil_append, and_true, ↓reduceIte, T2, r1, r2, c1, c2, c3, c4, c5', t6, q4]
    have rR : apR s0 0 i2 i3 = 0 := by
      unfold apR; rw [q1, if_neg n32, if_neg (fun h => by rcases h with (h | h) | (h | h) | h; exact c1 h; exact h c2; exact c3 h; exact h c4; exact c5 h), q3, if_neg (by decide)]; exact q4
    have rS : apS s0 0 i2 i3 = apN s0 0 i2 i3 := by unfold apS; rw [rR]; rfl
    have h4 : (sI s0 4).toInt < 32 := by rw [q4]; decide
    rw [rS] at T2
    have p0 : pc s0 = 0 := by unfold pc; rw [q4]; rfl
    obtain ⟨-, o2, o3, o4⟩ := apN_o (t := 0) (f := i2) (g := i3) E0 h4
    rw [p0] at o2
    have k789 : sA (apN s0 0 i2 i3) 7 0 = i2 ∧ sA (apN s0 0 i2 i3) 8 0 = i3 ∧ sA (apN s0 0 i2 i3) 9 0 = 0 ∧ sI (apN s0 0 i2 i3) 4 = 1 := by
      unfold apN; rw [q4]; simp +decide only [sI_uI, sA_uI, sA_uA, false_and, ↓reduceIte, and_self]
    have E1 : Ev (apN s0 0 i2 i3) := by rw [← rS]; exact Ev_ap E0
    simp +decide only [w100_35, w100_37, w100_38, w100_39, w100_40, w100_43, w100_45, w100_46, w100_49, w100_50, w100_52, w100_55, w100_56, w100_59, w100_60, w100_62, w100_65, w100_66, w100_67, w100_95, w100_97, w100_102, isO_put, Option.toList_some, List.cons_append, List.nil_append, true_and, and_true, ↓reduceIte, T2, rR, c1, c2, c3, c4, c5]
    generalize apN s0 0 i2 i3 = s1' at *
    rw [lt32] at c1 c2 c3 c4
    simp only [Int32.reduceToInt] at c1 c3
    have hA : Int32.ofNat i2.toNatClampNeg = i2 := ofn (by omega)
    have hB : Int32.ofNat i3.toNatClampNeg = i3 := ofn (by omega)
    have hne : i2.toNatClampNeg ≠ i3.toNatClampNeg := fun q => c5 (by rw [← hA, ← hB, q])
    have cA : i2.toNatClampNeg = i2.toInt.toNat := rfl
    have cB : i3.toNatClampNeg = i3.toInt.toNat := rfl
    generalize hAA : i2.toNatClampNeg = A at *
    generalize hBB : i3.toNatClampNeg = B at *
    have hR : R1 A B nf := ⟨hne, by omega, by omega, by omega⟩
    have hcp : 1 ≤ (cl 1 8 i1).toInt := hP.1
    have C0 : CX5 s1' A B nf (cl 1 8 i1) ini5 := by
      refine ⟨E1, ⟨(o4 0 (by decide)).trans q0, (o4 1 (by decide)).trans q1, (o4 2 (by decide)).trans q2, k789.2.2.2⟩, ⟨by rw [hA]; exact k789.1, by rw [hB]; exact k789.2.1, k789.2.2.1⟩, (o4 3 (by decide)).trans q3, ?_, ?_, ?_, ?_, ?_, o2.1, o2.2.1, o2.2.2.1, fun q => absurd q (by decide)⟩
      · exact (o3 1 0 (by decide)).trans (a0 1 0 (by decide))
      · exact (o3 2 0 (by decide)).trans (a0 2 0 (by decide))
      · exact (o3 3 0 (by decide)).trans (a0 3 0 (by decide))
      · exact (o3 4 0 (by decide)).trans (a0 4 0 (by decide))
      · exact (o3 5 0 (by decide)).trans (a0 5 0 (by decide))
    obtain ⟨d1, d2⟩ := dA (a := A) (b := B) (by omega) (by omega) hne
    obtain ⟨n1, n2⟩ := okN_add 32 64 ini5 d1
    obtain ⟨n3, n4⟩ := okN_add 32 32 _ n2
    have C1 := st5 hR hcp C0 n1
    have C2 := st5 hR hcp C1 n3
    have C3 := st5 hR hcp C2 n4
    rw [← itC_add, ← itC_add, show 32 + 32 + 32 = 96 from rfl, d2] at C3
    have P1 : PSA s1' := by
      refine ⟨by rw [o4 3 (by decide), q3]; decide, fun i hi => ?_⟩
      have : i = 0 := by unfold pc at hi; rw [k789.2.2.2] at hi; simp only [Int32.reduceToInt] at hi; omega
      subst this
      refine ⟨Or.inl o2.1, by rw [k789.1, o4 1 (by decide), q1]; omega, Or.inr ⟨by rw [o2.1]; decide, o2.2.2.1⟩, fun q => by rw [o2.1] at q; exact absurd q (by decide)⟩
    have t0 : sI s1' 3 = 0 := (o4 3 (by decide)).trans q3
    have c32 : cl 1 32 32 = 32 := by decide
    obtain ⟨P2, f1, g1, h1⟩ := st_all (a := 32) E1 P1 (by rw [t0]; decide)
    rw [c32, t0] at h1
    simp only [Int32.reduceToInt] at h1
    obtain ⟨P3, f2, g2, h2⟩ := st_all (a := 32) C1.1 P2 (by omega)
    rw [c32] at h2
    simp only [Int32.reduceToInt] at h2
    obtain ⟨P4, f3, g3, h3⟩ := st_all (a := 32) C2.1 P3 (by omega)
    have E4 := C3.1
    have dl1' : dlN s1' = 0 := by
      unfold dlN pc; rw [k789.2.2.2]; simp only [Int32.reduceToInt, Int.toNat_one, cnt, o2.1]; decide
    obtain ⟨-, ⟨z0, z1, z2, z4⟩, ⟨z7, z8, z9⟩, z3, w1, w2, w3, w4, w5, w6, w10, w11, w12⟩ := C3
    have pc4 := pc_K z4
    have dl4 : dlN (stS (stS (stS s1' 32) 32) 32) = 1 := by
      unfold dlN; rw [pc4]; simp only [cnt, w6]; decide
    have T4 := fun (v : St) (hv : Ev v) (Q : Option Value → AH → Prop) => t4 (lw := lw) (H := HH) (p := N) (s := v) (Q := Q) (a := 32) hv
    have T41 := T4 s1' E1
    have T42 := T4 _ C1.1
    have T43 := T4 _ C2.1
    generalize hs2 : stS s1' 32 = s2' at *
    generalize hs3 : stS s2' 32 = s3' at *
    generalize hs4 : stS s3' 32 = s4' at *
    have b2 := dlN_le C1.1
    have b3 := dlN_le C2.1
    have sum : sI s2' 5 + sI s3' 5 + sI s4' 5 = 1 := by
      have u : (sI s2' 5 + sI s3' 5).toInt = (sI s2' 5).toInt + (sI s3' 5).toInt := ia (by omega) (by omega)
      rw [eq32, ia (by rw [u]; omega) (by rw [u]; omega), u]; simp only [Int32.reduceToInt]; omega
    have dI' : tI (dlv5 A B) = Int32.ofNat (dlv5 A B) := by unfold tI; rw [if_neg (by unfold dlv5; omega)]
    have bl : 1 ≤ bdv A ∧ bdv A ≤ 40 := by unfold bdv; split <;> omega
    have bI : tI (bdv A) = Int32.ofNat (bdv A) := by unfold tI; rw [if_neg (by omega)]
    have dl' : 1 ≤ dlv5 A B ∧ dlv5 A B ≤ 100 := by unfold dlv5; split <;> omega
    have r6 : gP s4' 0 0 = 3 ∧ gP s4' 0 4 = Int32.ofNat (bdv A) ∧ gP s4' 0 5 = Int32.ofNat (dlv5 A B) ∧ gP s4' 0 6 = 0 := by
      unfold gP; rw [z4]; simp +decide only [Int32.reduceToNatClampNeg, ↓reduceIte]
      exact ⟨w6, w10.trans bI, w11.trans dI', w12 (by show 2 ≤ 3; omega)⟩
    have r7 : gC s4' 0 0 = i3 ∧ gC s4' 0 1 = 0 ∧ gC s4' 0 2 = 0 ∧ gC s4' 0 3 = 0 ∧ gC s4' 0 4 = 0 := by
      unfold gC; rw [z0]; simp +decide only [Int32.reduceToNatClampNeg, ↓reduceIte]
      exact ⟨w1.trans hB, w2, w3, w4, w5⟩
    have nb : ∀ m : Nat, 1 ≤ m → m ≤ 100 → ¬ Int32.ofNat m = -1 := fun m h1 h2 => by
      rw [eq32, Int32.toInt_ofNat_of_lt (by omega)]; simp only [Int32.reduceToInt]; omega
    have sub0 : ∀ v : Int32, v - 0 = v := fun v => Int32.sub_zero v
    have rW : wS s4' = Int32.ofNat (bdv A) := by
      have e : (!decide (sA s4' 10 0 = -1)) = true := by
        have : ¬ sA s4' 10 0 = -1 := fun q => nb _ bl.1 (by omega) (by rw [← bI, ← w10]; exact q)
        rw [decide_eq_false this]; rfl
      unfold wS; rw [pc4]; simp only [suF]; rw [if_pos e, w10, bI, z9, sub0, Int32.zero_add]
    have rJ : jS s4' = Int32.ofNat (dlv5 A B) := by
      have e : decide (sA s4' 6 0 = 3) = true := decide_eq_true w6
      unfold jS; rw [pc4]; simp only [suF]; rw [if_pos e, w11, dI', z9, sub0, Int32.zero_add]
    have bkr : ∀ m : Nat, m ≤ 100 → ¬ bkt (Int32.ofNat m) < 0 ∧ ¬ 7 < bkt (Int32.ofNat m) := fun m hm => by
      unfold bkt
      by_cases q : m < 28
      · obtain ⟨x1, x2⟩ := (bkt_n (m := m) (by omega)).1 q
        have : (Int32.ofNat (m / 4)).toInt = (m / 4 : Nat) := Int32.toInt_ofNat_of_lt (by omega)
        rw [if_pos x1, x2, lt32, lt32, this]; simp only [Int32.reduceToInt]; omega
      · rw [if_neg ((bkt_n (m := m) (by omega)).2 q)]; decide
    have rH0 : his s4' 0 (bkt (Int32.ofNat (bdv A))) = 1 := by
      have e : hiF s4' 0 (bkt (Int32.ofNat (bdv A))) 0 = true := by
        unfold hiF; rw [if_pos rfl]
        refine decide_eq_true ⟨fun q => nb _ bl.1 (by omega) (by rw [← bI, ← w10]; exact q), ?_⟩
        rw [w10, bI, z9, sub0]
      unfold his; rw [if_pos ⟨Or.inl rfl, bkr _ (by omega)⟩, pc4]; simp only [cnt]; rw [if_pos e]; rfl
    have rH1 : his s4' 1 (bkt (Int32.ofNat (dlv5 A B))) = 1 := by
      have e : hiF s4' 1 (bkt (Int32.ofNat (dlv5 A B))) 0 = true := by
        unfold hiF; rw [if_neg (by decide)]
        refine decide_eq_true ⟨w6, ?_⟩
        rw [w11, dI', z9, sub0]
      unfold his; rw [if_pos ⟨Or.inr rfl, bkr _ (by omega)⟩, pc4]; simp only [cnt]; rw [if_pos e]; rfl
    have t7' : Int32.ofNat (cnt (fun i => decide (sA s4' 6 i = 3)) 0 (pc s4')) = 1 := by
      have : cnt (fun i => decide (sA s4' 6 i = 3)) 0 (pc s4') = 1 := dl4
      rw [this]; rfl
    have now : sI s4' 3 = 96 := z3
    have board : (i2 = 0 → Int32.ofNat (bdv A) = 1) ∧ (¬ i2 = 0 → 2 * i2 + 2 = Int32.ofNat (bdv A)) := by
      refine ⟨fun q => ?_, fun q => ?_⟩
      · have : A = 0 := by rw [cA, q]; rfl
        rw [this]; rfl
      · have : ¬ A = 0 := fun z => q (by rw [← hA, z]; rfl)
        have m2 : (2 * i2).toInt = 2 * i2.toInt := im (by simp only [Int32.reduceToInt]; omega) (by simp only [Int32.reduceToInt]; omega)
        unfold bdv; rw [if_neg this, eq32, ia (by rw [m2]; simp only [Int32.reduceToInt]; omega) (by rw [m2]; simp only [Int32.reduceToInt]; omega), m2, Int32.toInt_ofNat_of_lt (by omega)]; simp only [Int32.reduceToInt]; omega
    have deliver : ∀ di : Int32, (i2 < i3 → di = i3 - i2) → (¬ i2 < i3 → di = i2 - i3) → Int32.ofNat (bdv A) + 7 + 2 * di = Int32.ofNat (dlv5 A B) := fun di h1 h2 => by
      have hd : di.toInt = ((if A < B then B - A else A - B : Nat) : Int) := by
        by_cases q : i2 < i3
        · rw [h1 q, isb (by omega) (by omega)]; rw [lt32] at q; rw [if_pos (by omega)]; omega
        · rw [h2 q, isb (by omega) (by omega)]; rw [lt32] at q; rw [if_neg (by omega)]; omega
      have eb : (Int32.ofNat (bdv A)).toInt = bdv A := Int32.toInt_ofNat_of_lt (by omega)
      have ed : ((if A < B then B - A else A - B : Nat) : Int) ≤ 15 := by split <;> omega
      have e7 : (Int32.ofNat (bdv A) + 7).toInt = bdv A + 7 := by rw [ia (by rw [eb]; simp only [Int32.reduceToInt]; omega) (by rw [eb]; simp only [Int32.reduceToInt]; omega), eb]; rfl
      have e2 : (2 * di).toInt = 2 * di.toInt := im (by simp only [Int32.reduceToInt]; omega) (by simp only [Int32.reduceToInt]; omega)
      rw [eq32, ia (by rw [e7, e2, hd]; omega) (by rw [e7, e2, hd]; omega), e7, e2, hd, Int32.toInt_ofNat_of_lt (by omega)]; unfold dlv5; omega
    simp +decide only [w100_104, w100_106, w100_109, w100_111, w100_113, w100_115, w100_118, w100_120, w100_122, w100_124, w100_127, isO_put, Option.toList_some, List.cons_append, List.nil_append, true_and, and_true, T41, T42, T43]
    have tail : ∀ di : Int32, (i2 < i3 → di = i3 - i2) → (¬ i2 < i3 → di = i2 - i3) → W (pj lw) 100 160 [.val (.int i0), .val (.int i1), .val (.int i2), .val (.int i3), .val (.ref N), .val (.int nf), .val (.int 0), .val (.int (sI s2' 5)), .val (.int (sI s3' 5)), .val (.int (sI s4' 5)), .val (.int (Int32.ofNat (bdv A))), .val (.int di), .unset, .unset, .unset, .unset, .unset, .unset, .unset, .unset, .unset, .unset, .unset, .unset, .unset, .unset, .unset, .unset, .unset, .unset] [] 14 295 (ob HH N s4') (fun v _ => v = some (.int 1)) := fun di h1 h2 => by
      have dv := deliver di h1 h2
      have m4 : ¬ (4 : Int32) = 0 := by decide
      have fb : bkt (Int32.ofNat (bdv A)) = if Int32.ofNat (bdv A) < 28 then Int32.ofNat (bdv A) / 4 else 7 := rfl
      have fd : bkt (Int32.ofNat (dlv5 A B)) = if Int32.ofNat (dlv5 A B) < 28 then Int32.ofNat (dlv5 A B) / 4 else 7 := rfl
      by_cases g1 : Int32.ofNat (bdv A) < 28 <;> by_cases g2 : Int32.ofNat (dlv5 A B) < 28 <;> simp only [g1, g2, if_true, if_false] at fb fd <;> rw [fb] at rH0 <;> rw [fd] at rH1 <;> simp +decide only [w100_160, w100_162, w100_164, w100_165, w100_166, w100_168, w100_169, w100_170, w100_172, w100_174, w100_176, w100_179, w100_181, w100_182, w100_183, w100_186, w100_188, w100_190, w100_192, w100_194, w100_197, w100_199, w100_200, w100_201, w100_204, w100_206, w100_208, w100_210, w100_213, w100_215, w100_217, w100_220, w100_222, w100_224, w100_225, w100_226, w100_229, w100_231, w100_233, w100_234, w100_235, w100_238, w100_240, w100_242, w100_243, w100_244, w100_247, w100_249, w100_251, w100_252, w100_254, w100_257, w100_259, w100_261, w100_264, w100_266, w100_268, w100_271, w100_273, w100_275, w100_276, w100_278, w100_281, w100_283, w100_285, w100_286, w100_288, w100_291, w100_293, w100_295, w100_296, w100_297, w100_300, w100_302, w100_304, w100_305, w100_306, w100_309, w100_311, w100_313, w100_314, w100_315, w100_318, w100_320, w100_322, w100_323, w100_324, w100_327, w100_329, w100_331, w100_332, w100_333, w100_336, w100_338, w100_340, w100_342, w100_343, w100_345, w100_346, w100_347, w100_350, w100_352, w100_354, w100_357, w100_359, w100_360, w100_363, w100_365, w100_366, w100_369, w100_371, w100_373, w100_376, w100_378, w100_380, w100_383, w100_385, w100_388, w100_390, w100_392, w100_395, w100_397, w100_399, w100_402, w100_404, w100_405, w100_408, w100_410, w100_411, w100_414, w100_416, w100_417, w100_420, w100_422, w100_425, w100_427, w100_430, w100_432, w100_435, w100_437, w100_440, w100_441, w100_445, isO_put, Option.toList_some, List.cons_append, List.nil_append, and_true, ↓reduceIte, dv, g1, g2, t5, now, t7 E4, t7', t9 E4, r6, t12 E4, rW, t13 E4, rJ, t14 E4, rH0, rH1, t8 E4, r7, sum]
    by_cases x0 : i2 = 0
    · have x0' := eq_true x0
      have e := board.1 x0
      by_cases x1 : i2 < i3
      · have := tail (i3 - i2) (fun _ => rfl) (fun q => absurd x1 q)
        rw [e] at this
        simp +decide only [w100_129, w100_130, w100_133, w100_134, w100_142, w100_144, w100_145, w100_146, w100_149, w100_150, w100_151, w100_152, w100_158, ↓reduceIte, x0', x1]
        exact this
      · have := tail (i2 - i3) (fun q => absurd q x1) (fun _ => rfl)
        rw [e] at this
        simp +decide only [w100_129, w100_130, w100_133, w100_134, w100_142, w100_144, w100_145, w100_146, w100_155, w100_156, w100_157, w100_158, ↓reduceIte, x0', x1]
        exact this
    · have e := board.2 x0
      by_cases x1 : i2 < i3
      · have := tail (i3 - i2) (fun _ => rfl) (fun q => absurd x1 q)
        simp +decide only [w100_129, w100_130, w100_137, w100_138, w100_139, w100_140, w100_141, w100_142, w100_144, w100_145, w100_146, w100_149, w100_150, w100_151, w100_152, w100_158, ↓reduceIte, x0, x1, e]
        exact this
      · have := tail (i2 - i3) (fun q => absurd q x1) (fun _ => rfl)
        simp +decide only [w100_129, w100_130, w100_137, w100_138, w100_139, w100_140, w100_141, w100_142, w100_144, w100_145, w100_146, w100_155, w100_156, w100_157, w100_158, ↓reduceIte, x0, x1, e]
        exact this
  by_cases g1 : i0 < 2
  · have ec : cl 2 16 i0 = 2 := by unfold cl; rw [if_pos g1]
    simp +decide only [w100_12, w100_13, w100_14, w100_17, w100_18, w100_33, ↓reduceIte, g1]; exact main 2 ec.symm
  · by_cases g2 : 16 < i0
    · have ec : cl 2 16 i0 = 16 := by unfold cl; rw [if_neg g1, if_pos g2]
      simp +decide only [w100_12, w100_13, w100_14, w100_21, w100_22, w100_24, w100_27, w100_29, w100_33, ↓reduceIte, g1, g2]; exact main 16 ec.symm
    · have ec : cl 2 16 i0 = i0 := by unfold cl; rw [if_neg g1, if_neg g2]
      simp +decide only [w100_12, w100_13, w100_14, w100_21, w100_22, w100_24, w100_32, w100_33, ↓reduceIte, g1, g2]; exact main i0 ec.symm
end X5

end Jvm.JX.Lw
namespace Jvm.Pilot.@@N@@
open Jvm Jvm.ClassFile Sem Op Lib Jvm.Free Jvm.Stand Jvm.LawKit Jvm.RoadKit Bundle Jvm.Pilot.@@N@@.Jvm.D Jvm.JX Jvm.JX.Pj Jvm.JX.Lw
def nmL : List (Nat × MethodName) := [(1, ⟨"ElevatorBank", "<init>", "(III)V"⟩), (2, ⟨"ElevatorBank", "addPassenger", "(III)I"⟩), (4, ⟨"ElevatorBank", "step", "(I)I"⟩), (5, ⟨"ElevatorBank", "now", "()I"⟩), (6, ⟨"ElevatorBank", "passengers", "()I"⟩), (7, ⟨"ElevatorBank", "delivered", "()I"⟩), (8, ⟨"ElevatorBank", "car", "(II)I"⟩), (9, ⟨"ElevatorBank", "passenger", "(II)I"⟩), (12, ⟨"ElevatorBank", "waitSum", "()I"⟩), (13, ⟨"ElevatorBank", "journeySum", "()I"⟩), (14, ⟨"ElevatorBank", "histogram", "(II)I"⟩), (15, ⟨"ElevatorBank", "clamp", "(III)I"⟩), (16, ⟨"ElevatorBank", "bucketOf", "(I)I"⟩), (17, ⟨"ElevatorBank", "direction", "(I)I"⟩), (18, ⟨"ElevatorBank", "slotIndex", "(II)I"⟩), (19, ⟨"ElevatorBank", "waitingDir", "(II)Z"⟩), (20, ⟨"ElevatorBank", "assigned", "(III)Z"⟩), (21, ⟨"ElevatorBank", "ridingTo", "(II)Z"⟩), (22, ⟨"ElevatorBank", "isTarget", "(II)Z"⟩), (23, ⟨"ElevatorBank", "beyond", "(II)Z"⟩), (24, ⟨"ElevatorBank", "room", "(I)Z"⟩), (25, ⟨"ElevatorBank", "choose", "(I)I"⟩), (26, ⟨"ElevatorBank", "tick", "()V"⟩), (27, ⟨"ElevatorBank", "arrivals", "()V"⟩), (28, ⟨"ElevatorBank", "dispatch", "()V"⟩), (29, ⟨"ElevatorBank", "assignCall", "(II)V"⟩), (30, ⟨"ElevatorBank", "eta", "(III)I"⟩), (31, ⟨"ElevatorBank", "runCar", "(I)V"⟩), (32, ⟨"ElevatorBank", "stepStopped", "(I)V"⟩), (33, ⟨"ElevatorBank", "stepMoving", "(I)V"⟩), (34, ⟨"ElevatorBank", "stepOpen", "(I)V"⟩), (35, ⟨"ElevatorBank", "deliverAt", "(I)Z"⟩), (36, ⟨"ElevatorBank", "boardAt", "(II)Z"⟩), (37, ⟨"ElevatorBank", "stepClosing", "(I)V"⟩), (100, ⟨"ElevatorBankL3", "law", "(IIII)Z"⟩)]
def nm (m : Nat) : MethodName := (nmL.lookup m).getD ⟨"", "", ""⟩
def btL : List (Nat × ByteArray) := [(1, prog_1_method_1_code), (2, prog_1_method_2_code), (4, prog_1_method_4_code), (5, prog_1_method_5_code), (6, prog_1_method_6_code), (7, prog_1_method_7_code), (8, prog_1_method_8_code), (9, prog_1_method_9_code), (12, prog_1_method_12_code), (13, prog_1_method_13_code), (14, prog_1_method_14_code), (15, prog_1_method_15_code), (16, prog_1_method_16_code), (17, prog_1_method_17_code), (18, prog_1_method_18_code), (19, prog_1_method_19_code), (20, prog_1_method_20_code), (21, prog_1_method_21_code), (22, prog_1_method_22_code), (23, prog_1_method_23_code), (24, prog_1_method_24_code), (25, prog_1_method_25_code), (26, prog_1_method_26_code), (27, prog_1_method_27_code), (28, prog_1_method_28_code), (29, prog_1_method_29_code), (30, prog_1_method_30_code), (31, prog_1_method_31_code), (32, prog_1_method_32_code), (33, prog_1_method_33_code), (34, prog_1_method_34_code), (35, prog_1_method_35_code), (36, prog_1_method_36_code), (37, prog_1_method_37_code), (100, code)]
def bt (m : Nat) : ByteArray := (btL.lookup m).getD ⟨#[]⟩
def fnL : List (String × String) := [("nCars", "I"), ("nFloors", "I"), ("cap", "I"), ("nowT", "I"), ("pCount", "I"), ("deliveredInCall", "I"), ("cFloor", "[I"), ("cState", "[I"), ("cDir", "[I"), ("cLoad", "[I"), ("cTimer", "[I"), ("pState", "[I"), ("pFrom", "[I"), ("pTo", "[I"), ("pArrive", "[I"), ("pBoard", "[I"), ("pDeliver", "[I"), ("pCar", "[I"), ("slot", "[I")]
def fn (k : Nat) : String × String := fnL.getD k ("", "")
def RL : List Nat := [1, 2, 4, 5, 6, 7, 8, 9, 12, 13, 14, 15, 16, 17, 18, 19, 20, 21, 22, 23, 24, 25, 26, 27, 28, 29, 30, 31, 32, 33, 34, 35, 36, 37, 100]
def FS : List Nat := [0, 1, 2, 3, 4, 5, 6, 7, 8, 9, 10, 11, 12, 13, 14, 15, 16, 17, 18]
def WF : List Nat := [0, 1, 2, 3, 4, 5, 6, 7, 8, 9, 10, 11, 12, 13, 14, 15, 16, 17, 18]
def FL : List (Nat × Nat × Nat) := [(0, 7, 6), (0, 13, 7), (0, 16, 8), (0, 19, 9), (0, 22, 10), (0, 25, 11), (0, 28, 12), (0, 31, 13), (0, 34, 14), (0, 37, 15), (0, 40, 16), (0, 43, 17), (0, 46, 18), (0, 53, 0), (0, 57, 1), (0, 60, 2), (0, 63, 4), (0, 66, 3), (0, 73, 5)]
def ML : List (Nat × Nat × Nat) := [(0, 49, 15), (0, 76, 26), (0, 87, 16), (0, 91, 17), (0, 79, 19), (0, 83, 18), (0, 94, 21), (0, 97, 20), (0, 101, 22), (0, 104, 23), (0, 107, 27), (0, 110, 28), (0, 113, 31), (0, 117, 29), (0, 121, 30), (0, 124, 32), (0, 127, 33), (0, 130, 34), (0, 133, 37), (0, 136, 25), (0, 139, 24), (0, 143, 35), (0, 146, 36), (1, 9, 1), (1, 12, 2), (1, 16, 6), (1, 20, 4), (1, 24, 5), (1, 27, 7), (1, 30, 9), (1, 34, 12), (1, 37, 13), (1, 40, 14), (1, 43, 8)]
def KI : List (Nat × Nat × Int) := []
def KJ : List (Nat × Nat × Int) := []
def ATL : List FieldType := [.int]
def cn (j : Nat) : String := if j = 0 then "ElevatorBank" else "ElevatorBankL3"
def own (m : Nat) : Nat := if m < 100 then 0 else 1
def ini (m : Nat) : Bool := m == 1
def rowsOf (m : Nat) : List Jvm.JX.Row := if m < 100 then prows.getD m [] else lrows.getD (m - 100) []
theorem hFL : ∀ t ∈ FL, t.2.2 ∈ FS ∧ Jvm.Cond.fieldLink (cn t.1) t.2.1 "ElevatorBank" (fn t.2.2).1 (fn t.2.2).2 ∈ tables_1 := (faS ⟨by decide, (List.mem_of_getElem? (i := 10) rfl)⟩ (faS ⟨by decide, (List.mem_of_getElem? (i := 12) rfl)⟩ (faS ⟨by decide, (List.mem_of_getElem? (i := 14) rfl)⟩ (faS ⟨by decide, (List.mem_of_getElem? (i := 16) rfl)⟩ (faS ⟨by decide, (List.mem_of_getElem? (i := 18) rfl)⟩ (faS ⟨by decide, (List.mem_of_getElem? (i := 20) rfl)⟩ (faS ⟨by decide, (List.mem_of_getElem? (i := 22) rfl)⟩ (faS ⟨by decide, (List.mem_of_getElem? (i := 24) rfl)⟩ (faS ⟨by decide, (List.mem_of_getElem? (i := 26) rfl)⟩ (faS ⟨by decide, (List.mem_of_getElem? (i := 28) rfl)⟩ (faS ⟨by decide, (List.mem_of_getElem? (i := 30) rfl)⟩ (faS ⟨by decide, (List.mem_of_getElem? (i := 32) rfl)⟩ (faS ⟨by decide, (List.mem_of_getElem? (i := 34) rfl)⟩ (faS ⟨by decide, (List.mem_of_getElem? (i := 40) rfl)⟩ (faS ⟨by decide, (List.mem_of_getElem? (i := 42) rfl)⟩ (faS ⟨by decide, (List.mem_of_getElem? (i := 44) rfl)⟩ (faS ⟨by decide, (List.mem_of_getElem? (i := 51) rfl)⟩ (faS ⟨by decide, (List.mem_of_getElem? (i := 58) rfl)⟩ (faS ⟨by decide, (List.mem_of_getElem? (i := 65) rfl)⟩ fa0)))))))))))))))))))
theorem hWF : ∀ k ∈ WF, Jvm.Cond.lays "ElevatorBank" "ElevatorBank" (fn k).1 (fn k).2 ∈ tables_1 := (faS (List.mem_of_getElem? (i := 41) rfl) (faS (List.mem_of_getElem? (i := 43) rfl) (faS (List.mem_of_getElem? (i := 45) rfl) (faS (List.mem_of_getElem? (i := 59) rfl) (faS (List.mem_of_getElem? (i := 52) rfl) (faS (List.mem_of_getElem? (i := 66) rfl) (faS (List.mem_of_getElem? (i := 11) rfl) (faS (List.mem_of_getElem? (i := 13) rfl) (faS (List.mem_of_getElem? (i := 15) rfl) (faS (List.mem_of_getElem? (i := 17) rfl) (faS (List.mem_of_getElem? (i := 19) rfl) (faS (List.mem_of_getElem? (i := 21) rfl) (faS (List.mem_of_getElem? (i := 23) rfl) (faS (List.mem_of_getElem? (i := 25) rfl) (faS (List.mem_of_getElem? (i := 27) rfl) (faS (List.mem_of_getElem? (i := 29) rfl) (faS (List.mem_of_getElem? (i := 31) rfl) (faS (List.mem_of_getElem? (i := 33) rfl) (faS (List.mem_of_getElem? (i := 35) rfl) fa0)))))))))))))))))))
theorem hML : ∀ t ∈ ML, t.2.2 ∈ RL ∧ Jvm.Cond.methodLink (cn t.1) t.2.1 (nm t.2.2) ∈ tables_1 := (faS ⟨by decide, (List.mem_of_getElem? (i := 36) rfl)⟩ (faS ⟨by decide, (List.mem_of_getElem? (i := 67) rfl)⟩ (faS ⟨by decide, (List.mem_of_getElem? (i := 181) rfl)⟩ (faS ⟨by decide, (List.mem_of_getElem? (i := 91) rfl)⟩ (faS ⟨by decide, (List.mem_of_getElem? (i := 87) rfl)⟩ (faS ⟨by decide, (List.mem_of_getElem? (i := 83) rfl)⟩ (faS ⟨by decide, (List.mem_of_getElem? (i := 119) rfl)⟩ (faS ⟨by decide, (List.mem_of_getElem? (i := 123) rfl)⟩ (faS ⟨by decide, (List.mem_of_getElem? (i := 115) rfl)⟩ (faS ⟨by decide, (List.mem_of_getElem? (i := 111) rfl)⟩ (faS ⟨by decide, (List.mem_of_getElem? (i := 71) rfl)⟩ (faS ⟨by decide, (List.mem_of_getElem? (i := 75) rfl)⟩ (faS ⟨by decide, (List.mem_of_getElem? (i := 99) rfl)⟩ (faS ⟨by decide, (List.mem_of_getElem? (i := 79) rfl)⟩ (faS ⟨by decide, (List.mem_of_getElem? (i := 95) rfl)⟩ (faS ⟨by decide, (List.mem_of_getElem? (i := 103) rfl)⟩ (faS ⟨by decide, (List.mem_of_getElem? (i := 131) rfl)⟩ (faS ⟨by decide, (List.mem_of_getElem? (i := 135) rfl)⟩ (faS ⟨by decide, (List.mem_of_getElem? (i := 147) rfl)⟩ (faS ⟨by decide, (List.mem_of_getElem? (i := 107) rfl)⟩ (faS ⟨by decide, (List.mem_of_getElem? (i := 127) rfl)⟩ (faS ⟨by decide, (List.mem_of_getElem? (i := 139) rfl)⟩ (faS ⟨by decide, (List.mem_of_getElem? (i := 143) rfl)⟩ (faS ⟨by decide, (List.mem_of_getElem? (i := 3) rfl)⟩ (faS ⟨by decide, (List.mem_of_getElem? (i := 46) rfl)⟩ (faS ⟨by decide, (List.mem_of_getElem? (i := 53) rfl)⟩ (faS ⟨by decide, (List.mem_of_getElem? (i := 60) rfl)⟩ (faS ⟨by decide, (List.mem_of_getElem? (i := 151) rfl)⟩ (faS ⟨by decide, (List.mem_of_getElem? (i := 156) rfl)⟩ (faS ⟨by decide, (List.mem_of_getElem? (i := 161) rfl)⟩ (faS ⟨by decide, (List.mem_of_getElem? (i := 166) rfl)⟩ (faS ⟨by decide, (List.mem_of_getElem? (i := 171) rfl)⟩ (faS ⟨by decide, (List.mem_of_getElem? (i := 176) rfl)⟩ (faS ⟨by decide, (List.mem_of_getElem? (i := 185) rfl)⟩ fa0))))))))))))))))))))))))))))))))))
theorem hKI : ∀ t ∈ KI, Jvm.Cond.constant (cn t.1) t.2.1 (Int32.ofInt t.2.2) ∈ tables_1 := fa0
theorem hKJ : ∀ t ∈ KJ, Jvm.Cond.constantLong (cn t.1) t.2.1 (Int64.ofInt t.2.2) ∈ tables_1 := fa0
theorem hAT : ∀ t ∈ ATL, Jvm.Cond.arrayClass t ∈ tables_1 := (faS (List.mem_of_getElem? (i := 9) rfl) fa0)
theorem hr1x0 : ((rowsOf 1).take 40).all (rowOne FL ML KI KJ ATL WF 19 7 bt own ini 1) = true := by decide +kernel
theorem hr1x1 : (((rowsOf 1).drop 40).take 40).all (rowOne FL ML KI KJ ATL WF 19 7 bt own ini 1) = true := by decide +kernel
theorem hr1x2 : (((rowsOf 1).drop 40).drop 40).all (rowOne FL ML KI KJ ATL WF 19 7 bt own ini 1) = true := by decide +kernel
theorem hr1 : (rowsOf 1).all (rowOne FL ML KI KJ ATL WF 19 7 bt own ini 1) = true := (all_td 40 hr1x0 (all_td 40 hr1x1 hr1x2))
theorem hr2x0 : ((rowsOf 2).take 40).all (rowOne FL ML KI KJ ATL WF 19 7 bt own ini 2) = true := by decide +kernel
theorem hr2x1 : ((rowsOf 2).drop 40).all (rowOne FL ML KI KJ ATL WF 19 7 bt own ini 2) = true := by decide +kernel
theorem hr2 : (rowsOf 2).all (rowOne FL ML KI KJ ATL WF 19 7 bt own ini 2) = true := (all_td 40 hr2x0 hr2x1)
theorem hr4 : (rowsOf 4).all (rowOne FL ML KI KJ ATL WF 19 7 bt own ini 4) = true := by decide +kernel
theorem hr5 : (rowsOf 5).all (rowOne FL ML KI KJ ATL WF 19 7 bt own ini 5) = true := by decide +kernel
theorem hr6 : (rowsOf 6).all (rowOne FL ML KI KJ ATL WF 19 7 bt own ini 6) = true := by decide +kernel
theorem hr7 : (rowsOf 7).all (rowOne FL ML KI KJ ATL WF 19 7 bt own ini 7) = true := by decide +kernel
theorem hr8 : (rowsOf 8).all (rowOne FL ML KI KJ ATL WF 19 7 bt own ini 8) = true := by decide +kernel
theorem hr9x0 : ((rowsOf 9).take 40).all (rowOne FL ML KI KJ ATL WF 19 7 bt own ini 9) = true := by decide +kernel
theorem hr9x1 : ((rowsOf 9).drop 40).all (rowOne FL ML KI KJ ATL WF 19 7 bt own ini 9) = true := by decide +kernel
theorem hr9 : (rowsOf 9).all (rowOne FL ML KI KJ ATL WF 19 7 bt own ini 9) = true := (all_td 40 hr9x0 hr9x1)
theorem hr12 : (rowsOf 12).all (rowOne FL ML KI KJ ATL WF 19 7 bt own ini 12) = true := by decide +kernel
theorem hr13 : (rowsOf 13).all (rowOne FL ML KI KJ ATL WF 19 7 bt own ini 13) = true := by decide +kernel
theorem hr14x0 : ((rowsOf 14).take 40).all (rowOne FL ML KI KJ ATL WF 19 7 bt own ini 14) = true := by decide +kernel
theorem hr14x1 : ((rowsOf 14).drop 40).all (rowOne FL ML KI KJ ATL WF 19 7 bt own ini 14) = true := by decide +kernel
theorem hr14 : (rowsOf 14).all (rowOne FL ML KI KJ ATL WF 19 7 bt own ini 14) = true := (all_td 40 hr14x0 hr14x1)
theorem hr15 : (rowsOf 15).all (rowOne FL ML KI KJ ATL WF 19 7 bt own ini 15) = true := by decide +kernel
theorem hr16 : (rowsOf 16).all (rowOne FL ML KI KJ ATL WF 19 7 bt own ini 16) = true := by decide +kernel
theorem hr17 : (rowsOf 17).all (rowOne FL ML KI KJ ATL WF 19 7 bt own ini 17) = true := by decide +kernel
theorem hr18 : (rowsOf 18).all (rowOne FL ML KI KJ ATL WF 19 7 bt own ini 18) = true := by decide +kernel
theorem hr19 : (rowsOf 19).all (rowOne FL ML KI KJ ATL WF 19 7 bt own ini 19) = true := by decide +kernel
theorem hr20 : (rowsOf 20).all (rowOne FL ML KI KJ ATL WF 19 7 bt own ini 20) = true := by decide +kernel
theorem hr21 : (rowsOf 21).all (rowOne FL ML KI KJ ATL WF 19 7 bt own ini 21) = true := by decide +kernel
theorem hr22 : (rowsOf 22).all (rowOne FL ML KI KJ ATL WF 19 7 bt own ini 22) = true := by decide +kernel
theorem hr23 : (rowsOf 23).all (rowOne FL ML KI KJ ATL WF 19 7 bt own ini 23) = true := by decide +kernel
theorem hr24 : (rowsOf 24).all (rowOne FL ML KI KJ ATL WF 19 7 bt own ini 24) = true := by decide +kernel
theorem hr25 : (rowsOf 25).all (rowOne FL ML KI KJ ATL WF 19 7 bt own ini 25) = true := by decide +kernel
theorem hr26 : (rowsOf 26).all (rowOne FL ML KI KJ ATL WF 19 7 bt own ini 26) = true := by decide +kernel
theorem hr27 : (rowsOf 27).all (rowOne FL ML KI KJ ATL WF 19 7 bt own ini 27) = true := by decide +kernel
theorem hr28 : (rowsOf 28).all (rowOne FL ML KI KJ ATL WF 19 7 bt own ini 28) = true := by decide +kernel
theorem hr29x0 : ((rowsOf 29).take 40).all (rowOne FL ML KI KJ ATL WF 19 7 bt own ini 29) = true := by decide +kernel
theorem hr29x1 : ((rowsOf 29).drop 40).all (rowOne FL ML KI KJ ATL WF 19 7 bt own ini 29) = true := by decide +kernel
theorem hr29 : (rowsOf 29).all (rowOne FL ML KI KJ ATL WF 19 7 bt own ini 29) = true := (all_td 40 hr29x0 hr29x1)
theorem hr30x0 : ((rowsOf 30).take 40).all (rowOne FL ML KI KJ ATL WF 19 7 bt own ini 30) = true := by decide +kernel
theorem hr30x1 : (((rowsOf 30).drop 40).take 40).all (rowOne FL ML KI KJ ATL WF 19 7 bt own ini 30) = true := by decide +kernel
theorem hr30x2 : (((rowsOf 30).drop 40).drop 40).all (rowOne FL ML KI KJ ATL WF 19 7 bt own ini 30) = true := by decide +kernel
theorem hr30 : (rowsOf 30).all (rowOne FL ML KI KJ ATL WF 19 7 bt own ini 30) = true := (all_td 40 hr30x0 (all_td 40 hr30x1 hr30x2))
theorem hr31 : (rowsOf 31).all (rowOne FL ML KI KJ ATL WF 19 7 bt own ini 31) = true := by decide +kernel
theorem hr32 : (rowsOf 32).all (rowOne FL ML KI KJ ATL WF 19 7 bt own ini 32) = true := by decide +kernel
theorem hr33x0 : ((rowsOf 33).take 40).all (rowOne FL ML KI KJ ATL WF 19 7 bt own ini 33) = true := by decide +kernel
theorem hr33x1 : (((rowsOf 33).drop 40).take 40).all (rowOne FL ML KI KJ ATL WF 19 7 bt own ini 33) = true := by decide +kernel
theorem hr33x2 : (((rowsOf 33).drop 40).drop 40).all (rowOne FL ML KI KJ ATL WF 19 7 bt own ini 33) = true := by decide +kernel
theorem hr33 : (rowsOf 33).all (rowOne FL ML KI KJ ATL WF 19 7 bt own ini 33) = true := (all_td 40 hr33x0 (all_td 40 hr33x1 hr33x2))
theorem hr34 : (rowsOf 34).all (rowOne FL ML KI KJ ATL WF 19 7 bt own ini 34) = true := by decide +kernel
theorem hr35x0 : ((rowsOf 35).take 40).all (rowOne FL ML KI KJ ATL WF 19 7 bt own ini 35) = true := by decide +kernel
theorem hr35x1 : ((rowsOf 35).drop 40).all (rowOne FL ML KI KJ ATL WF 19 7 bt own ini 35) = true := by decide +kernel
theorem hr35 : (rowsOf 35).all (rowOne FL ML KI KJ ATL WF 19 7 bt own ini 35) = true := (all_td 40 hr35x0 hr35x1)
theorem hr36x0 : ((rowsOf 36).take 40).all (rowOne FL ML KI KJ ATL WF 19 7 bt own ini 36) = true := by decide +kernel
theorem hr36x1 : ((rowsOf 36).drop 40).all (rowOne FL ML KI KJ ATL WF 19 7 bt own ini 36) = true := by decide +kernel
theorem hr36 : (rowsOf 36).all (rowOne FL ML KI KJ ATL WF 19 7 bt own ini 36) = true := (all_td 40 hr36x0 hr36x1)
theorem hr37 : (rowsOf 37).all (rowOne FL ML KI KJ ATL WF 19 7 bt own ini 37) = true := by decide +kernel
theorem hr100x0 : ((rowsOf 100).take 40).all (rowOne FL ML KI KJ ATL WF 19 7 bt own ini 100) = true := by decide +kernel
theorem hr100x1 : (((rowsOf 100).drop 40).take 40).all (rowOne FL ML KI KJ ATL WF 19 7 bt own ini 100) = true := by decide +kernel
theorem hr100x2 : ((((rowsOf 100).drop 40).drop 40).take 40).all (rowOne FL ML KI KJ ATL WF 19 7 bt own ini 100) = true := by decide +kernel
theorem hr100x3 : (((((rowsOf 100).drop 40).drop 40).drop 40).take 40).all (rowOne FL ML KI KJ ATL WF 19 7 bt own ini 100) = true := by decide +kernel
theorem hr100x4 : ((((((rowsOf 100).drop 40).drop 40).drop 40).drop 40).take 40).all (rowOne FL ML KI KJ ATL WF 19 7 bt own ini 100) = true := by decide +kernel
theorem hr100x5 : ((((((rowsOf 100).drop 40).drop 40).drop 40).drop 40).drop 40).all (rowOne FL ML KI KJ ATL WF 19 7 bt own ini 100) = true := by decide +kernel
theorem hr100 : (rowsOf 100).all (rowOne FL ML KI KJ ATL WF 19 7 bt own ini 100) = true := (all_td 40 hr100x0 (all_td 40 hr100x1 (all_td 40 hr100x2 (all_td 40 hr100x3 (all_td 40 hr100x4 hr100x5)))))
theorem hrows : RL.all (fun m => (rowsOf m).all (rowOne FL ML KI KJ ATL WF 19 7 bt own ini m)) = true := (all_c hr1 (all_c hr2 (all_c hr4 (all_c hr5 (all_c hr6 (all_c hr7 (all_c hr8 (all_c hr9 (all_c hr12 (all_c hr13 (all_c hr14 (all_c hr15 (all_c hr16 (all_c hr17 (all_c hr18 (all_c hr19 (all_c hr20 (all_c hr21 (all_c hr22 (all_c hr23 (all_c hr24 (all_c hr25 (all_c hr26 (all_c hr27 (all_c hr28 (all_c hr29 (all_c hr30 (all_c hr31 (all_c hr32 (all_c hr33 (all_c hr34 (all_c hr35 (all_c hr36 (all_c hr37 (all_c hr100 all_n)))))))))))))))))))))))))))))))))))
theorem cal1 : CalOk (pj lw) tables_1 "ElevatorBank" nm bt 1 := ⟨(List.mem_of_getElem? (i := 5) rfl), (List.mem_of_getElem? (i := 2) rfl), ⟨[.int, .int, .int], none, by decide +kernel, rfl⟩, fun h => absurd h (by decide), fun _ => ⟨rfl, (List.mem_of_getElem? (i := 4) rfl)⟩, fun h => absurd h (by decide), fun h => absurd h (by decide), fun _ => ⟨rfl, rfl⟩⟩
theorem cal2 : CalOk (pj lw) tables_1 "ElevatorBank" nm bt 2 := ⟨(List.mem_of_getElem? (i := 50) rfl), (List.mem_of_getElem? (i := 2) rfl), ⟨[.int, .int, .int], some .int, by decide +kernel, rfl⟩, fun h => absurd h (by decide), fun _ => ⟨rfl, (List.mem_of_getElem? (i := 48) rfl)⟩, fun _ => ⟨(List.mem_of_getElem? (i := 47) rfl), (List.mem_of_getElem? (i := 49) rfl)⟩, fun h => absurd h (by decide), fun h => absurd h (by decide)⟩
theorem cal4 : CalOk (pj lw) tables_1 "ElevatorBank" nm bt 4 := ⟨(List.mem_of_getElem? (i := 64) rfl), (List.mem_of_getElem? (i := 2) rfl), ⟨[.int], some .int, by decide +kernel, rfl⟩, fun h => absurd h (by decide), fun _ => ⟨rfl, (List.mem_of_getElem? (i := 62) rfl)⟩, fun _ => ⟨(List.mem_of_getElem? (i := 61) rfl), (List.mem_of_getElem? (i := 63) rfl)⟩, fun h => absurd h (by decide), fun h => absurd h (by decide)⟩
theorem cal5 : CalOk (pj lw) tables_1 "ElevatorBank" nm bt 5 := ⟨(List.mem_of_getElem? (i := 155) rfl), (List.mem_of_getElem? (i := 2) rfl), ⟨[], some .int, by decide +kernel, rfl⟩, fun h => absurd h (by decide), fun _ => ⟨rfl, (List.mem_of_getElem? (i := 153) rfl)⟩, fun _ => ⟨(List.mem_of_getElem? (i := 152) rfl), (List.mem_of_getElem? (i := 154) rfl)⟩, fun h => absurd h (by decide), fun h => absurd h (by decide)⟩
theorem cal6 : CalOk (pj lw) tables_1 "ElevatorBank" nm bt 6 := ⟨(List.mem_of_getElem? (i := 57) rfl), (List.mem_of_getElem? (i := 2) rfl), ⟨[], some .int, by decide +kernel, rfl⟩, fun h => absurd h (by decide), fun _ => ⟨rfl, (List.mem_of_getElem? (i := 55) rfl)⟩, fun _ => ⟨(List.mem_of_getElem? (i := 54) rfl), (List.mem_of_getElem? (i := 56) rfl)⟩, fun h => absurd h (by decide), fun h => absurd h (by decide)⟩
theorem cal7 : CalOk (pj lw) tables_1 "ElevatorBank" nm bt 7 := ⟨(List.mem_of_getElem? (i := 160) rfl), (List.mem_of_getElem? (i := 2) rfl), ⟨[], some .int, by decide +kernel, rfl⟩, fun h => absurd h (by decide), fun _ => ⟨rfl, (List.mem_of_getElem? (i := 158) rfl)⟩, fun _ => ⟨(List.mem_of_getElem? (i := 157) rfl), (List.mem_of_getElem? (i := 159) rfl)⟩, fun h => absurd h (by decide), fun h => absurd h (by decide)⟩
theorem cal8 : CalOk (pj lw) tables_1 "ElevatorBank" nm bt 8 := ⟨(List.mem_of_getElem? (i := 189) rfl), (List.mem_of_getElem? (i := 2) rfl), ⟨[.int, .int], some .int, by decide +kernel, rfl⟩, fun h => absurd h (by decide), fun _ => ⟨rfl, (List.mem_of_getElem? (i := 187) rfl)⟩, fun _ => ⟨(List.mem_of_getElem? (i := 186) rfl), (List.mem_of_getElem? (i := 188) rfl)⟩, fun h => absurd h (by decide), fun h => absurd h (by decide)⟩
theorem cal9 : CalOk (pj lw) tables_1 "ElevatorBank" nm bt 9 := ⟨(List.mem_of_getElem? (i := 165) rfl), (List.mem_of_getElem? (i := 2) rfl), ⟨[.int, .int], some .int, by decide +kernel, rfl⟩, fun h => absurd h (by decide), fun _ => ⟨rfl, (List.mem_of_getElem? (i := 163) rfl)⟩, fun _ => ⟨(List.mem_of_getElem? (i := 162) rfl), (List.mem_of_getElem? (i := 164) rfl)⟩, fun h => absurd h (by decide), fun h => absurd h (by decide)⟩
theorem cal12 : CalOk (pj lw) tables_1 "ElevatorBank" nm bt 12 := ⟨(List.mem_of_getElem? (i := 170) rfl), (List.mem_of_getElem? (i := 2) rfl), ⟨[], some .int, by decide +kernel, rfl⟩, fun h => absurd h (by decide), fun _ => ⟨rfl, (List.mem_of_getElem? (i := 168) rfl)⟩, fun _ => ⟨(List.mem_of_getElem? (i := 167) rfl), (List.mem_of_getElem? (i := 169) rfl)⟩, fun h => absurd h (by decide), fun h => absurd h (by decide)⟩
theorem cal13 : CalOk (pj lw) tables_1 "ElevatorBank" nm bt 13 := ⟨(List.mem_of_getElem? (i := 175) rfl), (List.mem_of_getElem? (i := 2) rfl), ⟨[], some .int, by decide +kernel, rfl⟩, fun h => absurd h (by decide), fun _ => ⟨rfl, (List.mem_of_getElem? (i := 173) rfl)⟩, fun _ => ⟨(List.mem_of_getElem? (i := 172) rfl), (List.mem_of_getElem? (i := 174) rfl)⟩, fun h => absurd h (by decide), fun h => absurd h (by decide)⟩
theorem cal14 : CalOk (pj lw) tables_1 "ElevatorBank" nm bt 14 := ⟨(List.mem_of_getElem? (i := 180) rfl), (List.mem_of_getElem? (i := 2) rfl), ⟨[.int, .int], some .int, by decide +kernel, rfl⟩, fun h => absurd h (by decide), fun _ => ⟨rfl, (List.mem_of_getElem? (i := 178) rfl)⟩, fun _ => ⟨(List.mem_of_getElem? (i := 177) rfl), (List.mem_of_getElem? (i := 179) rfl)⟩, fun h => absurd h (by decide), fun h => absurd h (by decide)⟩
theorem cal15 : CalOk (pj lw) tables_1 "ElevatorBank" nm bt 15 := ⟨(List.mem_of_getElem? (i := 39) rfl), (List.mem_of_getElem? (i := 2) rfl), ⟨[.int, .int, .int], some .int, by decide +kernel, rfl⟩, fun h => absurd h (by decide), fun _ => ⟨rfl, (List.mem_of_getElem? (i := 37) rfl)⟩, fun h => absurd h (by decide), fun _ => (List.mem_of_getElem? (i := 38) rfl), fun h => absurd h (by decide)⟩
theorem cal16 : CalOk (pj lw) tables_1 "ElevatorBank" nm bt 16 := ⟨(List.mem_of_getElem? (i := 184) rfl), (List.mem_of_getElem? (i := 2) rfl), ⟨[.int], some .int, by decide +kernel, rfl⟩, fun h => absurd h (by decide), fun _ => ⟨rfl, (List.mem_of_getElem? (i := 182) rfl)⟩, fun h => absurd h (by decide), fun _ => (List.mem_of_getElem? (i := 183) rfl), fun h => absurd h (by decide)⟩
theorem cal17 : CalOk (pj lw) tables_1 "ElevatorBank" nm bt 17 := ⟨(List.mem_of_getElem? (i := 94) rfl), (List.mem_of_getElem? (i := 2) rfl), ⟨[.int], some .int, by decide +kernel, rfl⟩, fun h => absurd h (by decide), fun _ => ⟨rfl, (List.mem_of_getElem? (i := 92) rfl)⟩, fun h => absurd h (by decide), fun _ => (List.mem_of_getElem? (i := 93) rfl), fun h => absurd h (by decide)⟩
theorem cal18 : CalOk (pj lw) tables_1 "ElevatorBank" nm bt 18 := ⟨(List.mem_of_getElem? (i := 86) rfl), (List.mem_of_getElem? (i := 2) rfl), ⟨[.int, .int], some .int, by decide +kernel, rfl⟩, fun h => absurd h (by decide), fun _ => ⟨rfl, (List.mem_of_getElem? (i := 84) rfl)⟩, fun h => absurd h (by decide), fun _ => (List.mem_of_getElem? (i := 85) rfl), fun h => absurd h (by decide)⟩
theorem cal19 : CalOk (pj lw) tables_1 "ElevatorBank" nm bt 19 := ⟨(List.mem_of_getElem? (i := 90) rfl), (List.mem_of_getElem? (i := 2) rfl), ⟨[.int, .int], some .boolean, by decide +kernel, rfl⟩, fun h => absurd h (by decide), fun _ => ⟨rfl, (List.mem_of_getElem? (i := 88) rfl)⟩, fun h => absurd h (by decide), fun _ => (List.mem_of_getElem? (i := 89) rfl), fun h => absurd h (by decide)⟩
theorem cal20 : CalOk (pj lw) tables_1 "ElevatorBank" nm bt 20 := ⟨(List.mem_of_getElem? (i := 126) rfl), (List.mem_of_getElem? (i := 2) rfl), ⟨[.int, .int, .int], some .boolean, by decide +kernel, rfl⟩, fun h => absurd h (by decide), fun _ => ⟨rfl, (List.mem_of_getElem? (i := 124) rfl)⟩, fun h => absurd h (by decide), fun _ => (List.mem_of_getElem? (i := 125) rfl), fun h => absurd h (by decide)⟩
theorem cal21 : CalOk (pj lw) tables_1 "ElevatorBank" nm bt 21 := ⟨(List.mem_of_getElem? (i := 122) rfl), (List.mem_of_getElem? (i := 2) rfl), ⟨[.int, .int], some .boolean, by decide +kernel, rfl⟩, fun h => absurd h (by decide), fun _ => ⟨rfl, (List.mem_of_getElem? (i := 120) rfl)⟩, fun h => absurd h (by decide), fun _ => (List.mem_of_getElem? (i := 121) rfl), fun h => absurd h (by decide)⟩
theorem cal22 : CalOk (pj lw) tables_1 "ElevatorBank" nm bt 22 := ⟨(List.mem_of_getElem? (i := 118) rfl), (List.mem_of_getElem? (i := 2) rfl), ⟨[.int, .int], some .boolean, by decide +kernel, rfl⟩, fun h => absurd h (by decide), fun _ => ⟨rfl, (List.mem_of_getElem? (i := 116) rfl)⟩, fun h => absurd h (by decide), fun _ => (List.mem_of_getElem? (i := 117) rfl), fun h => absurd h (by decide)⟩
theorem cal23 : CalOk (pj lw) tables_1 "ElevatorBank" nm bt 23 := ⟨(List.mem_of_getElem? (i := 114) rfl), (List.mem_of_getElem? (i := 2) rfl), ⟨[.int, .int], some .boolean, by decide +kernel, rfl⟩, fun h => absurd h (by decide), fun _ => ⟨rfl, (List.mem_of_getElem? (i := 112) rfl)⟩, fun h => absurd h (by decide), fun _ => (List.mem_of_getElem? (i := 113) rfl), fun h => absurd h (by decide)⟩
theorem cal24 : CalOk (pj lw) tables_1 "ElevatorBank" nm bt 24 := ⟨(List.mem_of_getElem? (i := 130) rfl), (List.mem_of_getElem? (i := 2) rfl), ⟨[.int], some .boolean, by decide +kernel, rfl⟩, fun h => absurd h (by decide), fun _ => ⟨rfl, (List.mem_of_getElem? (i := 128) rfl)⟩, fun h => absurd h (by decide), fun _ => (List.mem_of_getElem? (i := 129) rfl), fun h => absurd h (by decide)⟩
theorem cal25 : CalOk (pj lw) tables_1 "ElevatorBank" nm bt 25 := ⟨(List.mem_of_getElem? (i := 110) rfl), (List.mem_of_getElem? (i := 2) rfl), ⟨[.int], some .int, by decide +kernel, rfl⟩, fun h => absurd h (by decide), fun _ => ⟨rfl, (List.mem_of_getElem? (i := 108) rfl)⟩, fun h => absurd h (by decide), fun _ => (List.mem_of_getElem? (i := 109) rfl), fun h => absurd h (by decide)⟩
theorem cal26 : CalOk (pj lw) tables_1 "ElevatorBank" nm bt 26 := ⟨(List.mem_of_getElem? (i := 70) rfl), (List.mem_of_getElem? (i := 2) rfl), ⟨[], none, by decide +kernel, rfl⟩, fun h => absurd h (by decide), fun _ => ⟨rfl, (List.mem_of_getElem? (i := 68) rfl)⟩, fun h => absurd h (by decide), fun _ => (List.mem_of_getElem? (i := 69) rfl), fun h => absurd h (by decide)⟩
theorem cal27 : CalOk (pj lw) tables_1 "ElevatorBank" nm bt 27 := ⟨(List.mem_of_getElem? (i := 74) rfl), (List.mem_of_getElem? (i := 2) rfl), ⟨[], none, by decide +kernel, rfl⟩, fun h => absurd h (by decide), fun _ => ⟨rfl, (List.mem_of_getElem? (i := 72) rfl)⟩, fun h => absurd h (by decide), fun _ => (List.mem_of_getElem? (i := 73) rfl), fun h => absurd h (by decide)⟩
theorem cal28 : CalOk (pj lw) tables_1 "ElevatorBank" nm bt 28 := ⟨(List.mem_of_getElem? (i := 78) rfl), (List.mem_of_getElem? (i := 2) rfl), ⟨[], none, by decide +kernel, rfl⟩, fun h => absurd h (by decide), fun _ => ⟨rfl, (List.mem_of_getElem? (i := 76) rfl)⟩, fun h => absurd h (by decide), fun _ => (List.mem_of_getElem? (i := 77) rfl), fun h => absurd h (by decide)⟩
theorem cal29 : CalOk (pj lw) tables_1 "ElevatorBank" nm bt 29 := ⟨(List.mem_of_getElem? (i := 82) rfl), (List.mem_of_getElem? (i := 2) rfl), ⟨[.int, .int], none, by decide +kernel, rfl⟩, fun h => absurd h (by decide), fun _ => ⟨rfl, (List.mem_of_getElem? (i := 80) rfl)⟩, fun h => absurd h (by decide), fun _ => (List.mem_of_getElem? (i := 81) rfl), fun h => absurd h (by decide)⟩
theorem cal30 : CalOk (pj lw) tables_1 "ElevatorBank" nm bt 30 := ⟨(List.mem_of_getElem? (i := 98) rfl), (List.mem_of_getElem? (i := 2) rfl), ⟨[.int, .int, .int], some .int, by decide +kernel, rfl⟩, fun h => absurd h (by decide), fun _ => ⟨rfl, (List.mem_of_getElem? (i := 96) rfl)⟩, fun h => absurd h (by decide), fun _ => (List.mem_of_getElem? (i := 97) rfl), fun h => absurd h (by decide)⟩
theorem cal31 : CalOk (pj lw) tables_1 "ElevatorBank" nm bt 31 := ⟨(List.mem_of_getElem? (i := 102) rfl), (List.mem_of_getElem? (i := 2) rfl), ⟨[.int], none, by decide +kernel, rfl⟩, fun h => absurd h (by decide), fun _ => ⟨rfl, (List.mem_of_getElem? (i := 100) rfl)⟩, fun h => absurd h (by decide), fun _ => (List.mem_of_getElem? (i := 101) rfl), fun h => absurd h (by decide)⟩
theorem cal32 : CalOk (pj lw) tables_1 "ElevatorBank" nm bt 32 := ⟨(List.mem_of_getElem? (i := 106) rfl), (List.mem_of_getElem? (i := 2) rfl), ⟨[.int], none, by decide +kernel, rfl⟩, fun h => absurd h (by decide), fun _ => ⟨rfl, (List.mem_of_getElem? (i := 104) rfl)⟩, fun h => absurd h (by decide), fun _ => (List.mem_of_getElem? (i := 105) rfl), fun h => absurd h (by decide)⟩
theorem cal33 : CalOk (pj lw) tables_1 "ElevatorBank" nm bt 33 := ⟨(List.mem_of_getElem? (i := 134) rfl), (List.mem_of_getElem? (i := 2) rfl), ⟨[.int], none, by decide +kernel, rfl⟩, fun h => absurd h (by decide), fun _ => ⟨rfl, (List.mem_of_getElem? (i := 132) rfl)⟩, fun h => absurd h (by decide), fun _ => (List.mem_of_getElem? (i := 133) rfl), fun h => absurd h (by decide)⟩
theorem cal34 : CalOk (pj lw) tables_1 "ElevatorBank" nm bt 34 := ⟨(List.mem_of_getElem? (i := 138) rfl), (List.mem_of_getElem? (i := 2) rfl), ⟨[.int], none, by decide +kernel, rfl⟩, fun h => absurd h (by decide), fun _ => ⟨rfl, (List.mem_of_getElem? (i := 136) rfl)⟩, fun h => absurd h (by decide), fun _ => (List.mem_of_getElem? (i := 137) rfl), fun h => absurd h (by decide)⟩
theorem cal35 : CalOk (pj lw) tables_1 "ElevatorBank" nm bt 35 := ⟨(List.mem_of_getElem? (i := 142) rfl), (List.mem_of_getElem? (i := 2) rfl), ⟨[.int], some .boolean, by decide +kernel, rfl⟩, fun h => absurd h (by decide), fun _ => ⟨rfl, (List.mem_of_getElem? (i := 140) rfl)⟩, fun h => absurd h (by decide), fun _ => (List.mem_of_getElem? (i := 141) rfl), fun h => absurd h (by decide)⟩
theorem cal36 : CalOk (pj lw) tables_1 "ElevatorBank" nm bt 36 := ⟨(List.mem_of_getElem? (i := 146) rfl), (List.mem_of_getElem? (i := 2) rfl), ⟨[.int, .int], some .boolean, by decide +kernel, rfl⟩, fun h => absurd h (by decide), fun _ => ⟨rfl, (List.mem_of_getElem? (i := 144) rfl)⟩, fun h => absurd h (by decide), fun _ => (List.mem_of_getElem? (i := 145) rfl), fun h => absurd h (by decide)⟩
theorem cal37 : CalOk (pj lw) tables_1 "ElevatorBank" nm bt 37 := ⟨(List.mem_of_getElem? (i := 150) rfl), (List.mem_of_getElem? (i := 2) rfl), ⟨[.int], none, by decide +kernel, rfl⟩, fun h => absurd h (by decide), fun _ => ⟨rfl, (List.mem_of_getElem? (i := 148) rfl)⟩, fun h => absurd h (by decide), fun _ => (List.mem_of_getElem? (i := 149) rfl), fun h => absurd h (by decide)⟩
theorem hcal : ∀ m ∈ RL, m ≠ 100 → CalOk (pj lw) tables_1 "ElevatorBank" nm bt m := (faS (fun _ => cal1) (faS (fun _ => cal2) (faS (fun _ => cal4) (faS (fun _ => cal5) (faS (fun _ => cal6) (faS (fun _ => cal7) (faS (fun _ => cal8) (faS (fun _ => cal9) (faS (fun _ => cal12) (faS (fun _ => cal13) (faS (fun _ => cal14) (faS (fun _ => cal15) (faS (fun _ => cal16) (faS (fun _ => cal17) (faS (fun _ => cal18) (faS (fun _ => cal19) (faS (fun _ => cal20) (faS (fun _ => cal21) (faS (fun _ => cal22) (faS (fun _ => cal23) (faS (fun _ => cal24) (faS (fun _ => cal25) (faS (fun _ => cal26) (faS (fun _ => cal27) (faS (fun _ => cal28) (faS (fun _ => cal29) (faS (fun _ => cal30) (faS (fun _ => cal31) (faS (fun _ => cal32) (faS (fun _ => cal33) (faS (fun _ => cal34) (faS (fun _ => cal35) (faS (fun _ => cal36) (faS (fun _ => cal37) (faS (fun h => absurd rfl h) fa0)))))))))))))))))))))))))))))))))))
theorem hfld : ∀ k ∈ FS, parseFieldDescriptor (fn k).2 = some ((pj lw).2.2.1 k) ∧ (Jvm.Cond.lays "ElevatorBank" "ElevatorBank" (fn k).1 (fn k).2 ∈ tables_1 ∨ Jvm.Cond.laysFinal "ElevatorBank" "ElevatorBank" (fn k).1 (fn k).2 ∈ tables_1) := (faS ⟨by decide +kernel, Or.inl (List.mem_of_getElem? (i := 41) rfl)⟩ (faS ⟨by decide +kernel, Or.inl (List.mem_of_getElem? (i := 43) rfl)⟩ (faS ⟨by decide +kernel, Or.inl (List.mem_of_getElem? (i := 45) rfl)⟩ (faS ⟨by decide +kernel, Or.inl (List.mem_of_getElem? (i := 59) rfl)⟩ (faS ⟨by decide +kernel, Or.inl (List.mem_of_getElem? (i := 52) rfl)⟩ (faS ⟨by decide +kernel, Or.inl (List.mem_of_getElem? (i := 66) rfl)⟩ (faS ⟨by decide +kernel, Or.inl (List.mem_of_getElem? (i := 11) rfl)⟩ (faS ⟨by decide +kernel, Or.inl (List.mem_of_getElem? (i := 13) rfl)⟩ (faS ⟨by decide +kernel, Or.inl (List.mem_of_getElem? (i := 15) rfl)⟩ (faS ⟨by decide +kernel, Or.inl (List.mem_of_getElem? (i := 17) rfl)⟩ (faS ⟨by decide +kernel, Or.inl (List.mem_of_getElem? (i := 19) rfl)⟩ (faS ⟨by decide +kernel, Or.inl (List.mem_of_getElem? (i := 21) rfl)⟩ (faS ⟨by decide +kernel, Or.inl (List.mem_of_getElem? (i := 23) rfl)⟩ (faS ⟨by decide +kernel, Or.inl (List.mem_of_getElem? (i := 25) rfl)⟩ (faS ⟨by decide +kernel, Or.inl (List.mem_of_getElem? (i := 27) rfl)⟩ (faS ⟨by decide +kernel, Or.inl (List.mem_of_getElem? (i := 29) rfl)⟩ (faS ⟨by decide +kernel, Or.inl (List.mem_of_getElem? (i := 31) rfl)⟩ (faS ⟨by decide +kernel, Or.inl (List.mem_of_getElem? (i := 33) rfl)⟩ (faS ⟨by decide +kernel, Or.inl (List.mem_of_getElem? (i := 35) rfl)⟩ fa0)))))))))))))))))))
theorem good : Good (pj lw) tables_1 "ElevatorBank" fn FS 19 nm bt RL 100 := by
  refine ⟨(List.mem_of_getElem? (i := 1) rfl), (List.mem_of_getElem? (i := 2) rfl), hfld, by decide +kernel, fun m hm => ?_, hcal, fun m _ pc ins len aux _ _ => by cases ins <;> rfl⟩
  have hpl : plainName "ElevatorBank" = true ∧ plainName "ElevatorBankL3" = true := ⟨by first | (simp [plainName, overriddenIn]; done) | decide +kernel, by first | (simp [plainName, overriddenIn]; done) | decide +kernel⟩
  have hcn : ∀ m ∈ RL, (nm m).cls = cn (own m) := by decide +kernel
  have hin : ∀ m ∈ RL, ini m = true → (nm m).cls = "ElevatorBank" ∧ (nm m).name = "<init>" := by decide +kernel
  have hor : (nm m).cls = "ElevatorBank" ∨ (nm m).cls = "ElevatorBankL3" := by rw [hcn m hm]; unfold cn; split <;> simp
  refine ⟨by rcases hor with h | h <;> rw [h] <;> simp [hpl], by rcases hor with h | h <;> rw [h] <;> decide, fun pc ins len aux h => ?_⟩
  have hmem : (pc, ins, len, aux) ∈ rowsOf m := by
    unfold rowsOf
    by_cases g : m < 100
    · rw [if_pos g]; exact lookup_mem (by simpa [pj, g] using h)
    · rw [if_neg g]; exact lookup_mem (by simpa [pj, lw, g] using h)
  have hrow := List.all_eq_true.mp (List.all_eq_true.mp hrows m hm) _ hmem
  simp only [rowOne, Bool.and_eq_true, decide_eq_true_eq] at hrow
  exact ⟨hrow.1.1, hrow.1.2, row_ok (hcn m hm) (hin m hm) hFL hWF hML hKI hKJ hAT (List.mem_of_getElem? (i := 0) rfl) ⟨(List.mem_of_getElem? (i := 6) rfl), (List.mem_of_getElem? (i := 7) rfl), (List.mem_of_getElem? (i := 8) rfl)⟩ hrow.2⟩
set_option maxRecDepth 65536 in
set_option maxHeartbeats 40000000 in
theorem comes_1 {Post : Tables → Env → Array Value → State → Outcome → State → Prop} (hpost : ∀ tb e args s v u, (limb_1_1.after args s (.returned v) u = true ∧ limb_1_2.after args s (.returned v) u = true ∧ True) → FrameEnd s (.returned v) u (Jvm.fieldLocs frame_1_writes args s ++ Jvm.arrayLocs frame_1_arrays args s ++ Jvm.staticLocs frame_1_statics s) 40 704 → Post tb e args s (.returned v) u) :
    ArmFor flags0 classFile x code maxLocals ret World_1 tables_1 room_1 Calls_1 rest_1 Pre_1 Post := by
  intro l hfl _ _ p e ha hc hk s m args below hf hA hF happ hP
  obtain ⟨hcalls, hrest, hpre⟩ := hP
  obtain ⟨-, -, -, hnamed, -, -, -, hat⟩ := (Spec.applies_iff hf).mp happ
  obtain ⟨hg, hn⟩ := and_e (Cond.before_iff.mp (show (Jvm.Cond.and given_1 narrow_1).before args s = true from hpre))
  have hw := fun d (hd : d ∈ tables_1) => atoms_spec (ws := Jvm.Cond.code x code maxLocals ret :: tables_1) hat d (List.mem_cons_of_mem _ hd)
  obtain ⟨g0, r0⟩ := and_e hg
  obtain ⟨w0, w1, w2, w3, rfl⟩ : ∃ w0 w1 w2 w3 : Value, args = #[w0, w1, w2, w3] := by
    have hs : args.size = 4 := by simpa [Cond.value, given_1] using g0
    obtain ⟨L⟩ := args
    match L, hs with
    | [w0, w1, w2, w3], _ => exact ⟨w0, w1, w2, w3, rfl⟩
  obtain ⟨g1, r1⟩ := and_e r0
  obtain ⟨g2, r2⟩ := and_e r1
  obtain ⟨g3, r3⟩ := and_e r2
  have g4 := r3
  obtain ⟨i0, e0⟩ := is_v g1
  obtain rfl : w0 = (.int i0) := Option.some.inj e0
  obtain ⟨i1, e1⟩ := is_v g2
  obtain rfl : w1 = (.int i1) := Option.some.inj e1
  obtain ⟨i2, e2⟩ := is_v g3
  obtain rfl : w2 = (.int i2) := Option.some.inj e2
  obtain ⟨i3, e3⟩ := is_v g4
  obtain rfl : w3 = (.int i3) := Option.some.inj e3
  obtain ⟨n, o, h1, h2, h3, _, L, rfl, ⟨N, H2, rfl⟩, hq⟩ := law_met (l := l) (Z := s) (a0 := _) (n0 := s.heap.size) good hw (as := [.int i0, .int i1, .int i2, .int i3]) (h := s.heap) tables_1 (by decide) (by simp [Sym.laidSlots, Value.category]; decide) (rel_H0 s.heap) (law_ok i0 i1 i2 i3 s.heap.size) p e ha hc hk s m _ below hf ((Spec.applies_iff_loose hf).mp happ).1 ⟨rfl, State.Warmed39.refl s, rfl⟩ trivial
  exact ⟨n, _, h1, h2, h3, hpost _ _ _ _ _ _ ⟨Cond.after_iff.mpr rfl, Cond.after_iff.mpr (eq_i res_at (Term.int_eval (1)) rfl), trivial⟩ ⟨hq.1, hq.2.1, (hq.2.2.sift fun y hy => Or.inr (N y hy)).mono (by decide) (by decide)⟩⟩
theorem main_1_1 : Claimed_1_1 := comes_1 fun _ _ _ _ _ _ h hF => ⟨h.1, hF⟩
theorem main_1_2 : Claimed_1_2 := comes_1 fun _ _ _ _ _ _ h hF => ⟨h.2.1, hF⟩
end Jvm.Pilot.@@N@@
namespace Jvm.Pilot.@@N@@
open Jvm Jvm.ClassFile Sem Op Lib Jvm.Free Jvm.Stand Jvm.Pilot.@@N@@.Jvm.D
/-! MADE BY PROGRAM (witnessworld.py) out of the Statement's table words and the real class files: 9 classes; the members and pool entries that the words name. The judged class is class 1, her method 1. -/
namespace start1
open Jvm.ClassFile
def u (s : String) : CpInfo := .utf8 (stringToUtf16 s)
/-- a pool by its gaps: so many unusable entries, then the entry; so many at the end -/
def gap : Nat → List CpInfo → List CpInfo
  | 0, r => r
  | n + 1, r => .unusable :: gap n r
def poolList (es : List (Nat × CpInfo)) (last : Nat) : List CpInfo := es.foldr (fun e r => gap e.1 (e.2 :: r)) (gap last [])
def pool (es : List (Nat × CpInfo)) (last : Nat) : Array CpInfo := ⟨poolList es last⟩
def fileOf (pool : Array CpInfo) (this : Nat) (attrs : Array Attribute := #[]) (ms : Array MethodInfo := #[]) (fl : Nat := 33) (sup : Nat := 0) (ifs : Array Nat := #[]) (fds : Array FieldInfo := #[]) : ClassFile where
  minorVersion := 0
  majorVersion := 65
  constantPool := pool
  accessFlags := fl
  thisClass := this
  superClass := sup
  interfaces := ifs
  fields := fds
  methods := ms
  attributes := attrs
def plain (name : String) (sup : Option ClassId) : Class where
  name := name
  kind := .ordinary
  loader := none
  accessFlags := 33
  super := sup
  interfaces := #[]
  cf := none
  fields := #[]
  methods := #[]
  instanceTypes := #[]
  staticTypes := #[]
  resolved := #[]
  callSites := []
  init := .initialized
  statics := none
  mirror := none

def pool0 : Array CpInfo := pool [(5, u "<init>"), (0, u "()V"), (1, .class_ 10), (1, u "java/lang/Object")] 113

def k0c0 : Code := { maxStack := 0, maxLocals := 1, code := object_method_1_code, exceptionTable := #[], attributes := #[] }
def k0m0 : Method := { name := "<init>", desc := "()V", sig := { parameters := [], returnType := none }, accessFlags := 1, code := some k0c0 }
/-- java/lang/Object -/
def k0 : Class := { plain "java/lang/Object" none with
  accessFlags := 33
  interfaces := #[]
  cf := some (fileOf pool0 8 #[] #[{ accessFlags := 1, nameIndex := 5, descriptorIndex := 6, attributes := #[] }] 33 0 #[] #[])
  fields := #[]
  methods := #[k0m0]
  instanceTypes := #[]
  staticTypes := #[]
  resolved := Array.replicate 124 none
  statics := none }

def pool1 : Array CpInfo := pool [(2, .class_ 4), (1, u "java/lang/Object"), (0, u "<init>"), (0, u "()V"), (0, .class_ 8), (0, u "ElevatorBank"), (0, .methodref 7 10), (0, .nameAndType 5 11), (0, u "(III)V"), (0, .methodref 7 13), (0, .nameAndType 14 15), (0, u "addPassenger"), (0, u "(III)I"), (0, .methodref 7 17), (0, .nameAndType 18 19), (0, u "passengers"), (0, u "()I"), (0, .methodref 7 21), (0, .nameAndType 22 23), (0, u "step"), (0, u "(I)I"), (0, .methodref 7 25), (0, .nameAndType 26 19), (0, u "now"), (0, .methodref 7 28), (0, .nameAndType 29 19), (0, u "delivered"), (0, .methodref 7 31), (0, .nameAndType 32 33), (0, u "passenger"), (0, u "(II)I"), (0, .methodref 7 35), (0, .nameAndType 36 19), (0, u "waitSum"), (0, .methodref 7 38), (0, .nameAndType 39 19), (0, u "journeySum"), (0, .methodref 7 41), (0, .nameAndType 42 33), (0, u "histogram"), (0, .methodref 7 44), (0, .nameAndType 45 33), (0, u "car"), (0, .class_ 47), (0, u "ElevatorBankL3"), (2, u "law"), (0, u "(IIII)Z")] 3

def k1m0 : Method := { name := "<init>", desc := "()V", sig := { parameters := [], returnType := none }, accessFlags := 1, code := none }
def k1c1 : Code := { maxStack := 5, maxLocals := 30, code := code, exceptionTable := #[], attributes := #[] }
def k1m1 : Method := { name := "law", desc := "(IIII)Z", sig := { parameters := [.int, .int, .int, .int], returnType := some .boolean }, accessFlags := 9, code := some k1c1 }
/-- ElevatorBankL3 -/
def k1 : Class := { plain "ElevatorBankL3" (some 0) with
  accessFlags := 49
  interfaces := #[]
  cf := some (fileOf pool1 46 #[] #[{ accessFlags := 1, nameIndex := 5, descriptorIndex := 6, attributes := #[] }, { accessFlags := 9, nameIndex := 50, descriptorIndex := 51, attributes := #[] }] 49 2 #[] #[])
  fields := #[]
  methods := #[k1m0, k1m1]
  instanceTypes := #[]
  staticTypes := #[]
  resolved := Array.replicate 55 none
  statics := none }

def pool2 : Array CpInfo := pool [(1, .methodref 2 3), (0, .class_ 4), (0, .nameAndType 5 6), (0, u "java/lang/Object"), (0, u "<init>"), (0, u "()V"), (0, .fieldref 8 9), (0, .class_ 10), (0, .nameAndType 11 12), (0, u "ElevatorBank"), (0, u "cFloor"), (0, u "[I"), (0, .fieldref 8 14), (0, .nameAndType 15 12), (0, u "cState"), (0, .fieldref 8 17), (0, .nameAndType 18 12), (0, u "cDir"), (0, .fieldref 8 20), (0, .nameAndType 21 12), (0, u "cLoad"), (0, .fieldref 8 23), (0, .nameAndType 24 12), (0, u "cTimer"), (0, .fieldref 8 26), (0, .nameAndType 27 12), (0, u "pState"), (0, .fieldref 8 29), (0, .nameAndType 30 12), (0, u "pFrom"), (0, .fieldref 8 32), (0, .nameAndType 33 12), (0, u "pTo"), (0, .fieldref 8 35), (0, .nameAndType 36 12), (0, u "pArrive"), (0, .fieldref 8 38), (0, .nameAndType 39 12), (0, u "pBoard"), (0, .fieldref 8 41), (0, .nameAndType 42 12), (0, u "pDeliver"), (0, .fieldref 8 44), (0, .nameAndType 45 12), (0, u "pCar"), (0, .fieldref 8 47), (0, .nameAndType 48 12), (0, u "slot"), (0, .methodref 8 50), (0, .nameAndType 51 52), (0, u "clamp"), (0, u "(III)I"), (0, .fieldref 8 54), (0, .nameAndType 55 56), (0, u "nCars"), (0, u "I"), (0, .fieldref 8 58), (0, .nameAndType 59 56), (0, u "nFloors"), (0, .fieldref 8 61), (0, .nameAndType 62 56), (0, u "cap"), (0, .fieldref 8 64), (0, .nameAndType 65 56), (0, u "pCount"), (0, .fieldref 8 67), (0, .nameAndType 68 56), (0, u "nowT"), (3, u "addPassenger"), (0, .fieldref 8 74), (0, .nameAndType 75 56), (0, u "deliveredInCall"), (0, .methodref 8 77), (0, .nameAndType 78 6), (0, u "tick"), (0, .methodref 8 80), (0, .nameAndType 81 82), (0, u "waitingDir"), (0, u "(II)Z"), (0, .methodref 8 84), (0, .nameAndType 85 86), (0, u "slotIndex"), (0, u "(II)I"), (0, .methodref 8 88), (0, .nameAndType 89 90), (0, u "bucketOf"), (0, u "(I)I"), (0, .methodref 8 92), (0, .nameAndType 93 90), (0, u "direction"), (0, .methodref 8 95), (0, .nameAndType 96 82), (0, u "ridingTo"), (0, .methodref 8 98), (0, .nameAndType 99 100), (0, u "assigned"), (0, u "(III)Z"), (0, .methodref 8 102), (0, .nameAndType 103 82), (0, u "isTarget"), (0, .methodref 8 105), (0, .nameAndType 106 82), (0, u "beyond"), (0, .methodref 8 108), (0, .nameAndType 109 6), (0, u "arrivals"), (0, .methodref 8 111), (0, .nameAndType 112 6), (0, u "dispatch"), (0, .methodref 8 114), (0, .nameAndType 115 116), (0, u "runCar"), (0, u "(I)V"), (0, .methodref 8 118), (0, .nameAndType 119 120), (0, u "assignCall"), (0, u "(II)V"), (0, .methodref 8 122), (0, .nameAndType 123 52), (0, u "eta"), (0, .methodref 8 125), (0, .nameAndType 126 116), (0, u "stepStopped"), (0, .methodref 8 128), (0, .nameAndType 129 116), (0, u "stepMoving"), (0, .methodref 8 131), (0, .nameAndType 132 116), (0, u "stepOpen"), (0, .methodref 8 134), (0, .nameAndType 135 116), (0, u "stepClosing"), (0, .methodref 8 137), (0, .nameAndType 138 90), (0, u "choose"), (0, .methodref 8 140), (0, .nameAndType 141 142), (0, u "room"), (0, u "(I)Z"), (0, .methodref 8 144), (0, .nameAndType 145 142), (0, u "deliverAt"), (0, .methodref 8 147), (0, .nameAndType 148 82), (0, u "boardAt"), (0, u "UP"), (2, u "DOWN"), (1, u "INVALID"), (1, u "ERR_FULL"), (0, u "ERR_FLOOR"), (1, u "ERR_TIME"), (1, u "STOPPED"), (1, u "OPEN"), (0, u "CLOSING"), (1, u "MOVING"), (1, u "C_FLOOR"), (0, u "C_STATE"), (0, u "C_DIR"), (0, u "C_LOAD"), (0, u "C_TIMER"), (1, u "P_STATE"), (0, u "P_FROM"), (0, u "P_TO"), (0, u "P_ARRIVE"), (0, u "P_BOARD"), (0, u "P_DELIVER"), (1, u "P_CAR"), (1, u "SCHEDULED"), (0, u "WAITING"), (0, u "RIDING"), (0, u "DELIVERED"), (0, u "WAIT"), (0, u "JOURNEY"), (0, u "DWELL"), (0, u "START"), (0, u "CRUISE"), (0, u "FULL_PENALTY"), (1, u "MAX_PASSENGERS"), (1, u "(III)V"), (4, u "step"), (0, u "now"), (0, u "()I"), (0, u "passengers"), (0, u "delivered"), (0, u "car"), (0, u "passenger"), (2, u "waitSum"), (0, u "journeySum"), (0, u "histogram")] 2

def k2c0 : Code := { maxStack := 5, maxLocals := 5, code := prog_1_method_1_code, exceptionTable := #[], attributes := #[] }
def k2m0 : Method := { name := "<init>", desc := "(III)V", sig := { parameters := [.int, .int, .int], returnType := none }, accessFlags := 1, code := some k2c0 }
def k2c1 : Code := { maxStack := 3, maxLocals := 5, code := prog_1_method_2_code, exceptionTable := #[], attributes := #[] }
def k2m1 : Method := { name := "addPassenger", desc := "(III)I", sig := { parameters := [.int, .int, .int], returnType := some .int }, accessFlags := 1, code := some k2c1 }
def k2c2 : Code := { maxStack := 4, maxLocals := 4, code := prog_1_method_4_code, exceptionTable := #[], attributes := #[] }
def k2m2 : Method := { name := "step", desc := "(I)I", sig := { parameters := [.int], returnType := some .int }, accessFlags := 1, code := some k2c2 }
def k2c3 : Code := { maxStack := 1, maxLocals := 1, code := prog_1_method_5_code, exceptionTable := #[], attributes := #[] }
def k2m3 : Method := { name := "now", desc := "()I", sig := { parameters := [], returnType := some .int }, accessFlags := 1, code := some k2c3 }
def k2c4 : Code := { maxStack := 1, maxLocals := 1, code := prog_1_method_6_code, exceptionTable := #[], attributes := #[] }
def k2m4 : Method := { name := "passengers", desc := "()I", sig := { parameters := [], returnType := some .int }, accessFlags := 1, code := some k2c4 }
def k2c5 : Code := { maxStack := 2, maxLocals := 3, code := prog_1_method_7_code, exceptionTable := #[], attributes := #[] }
def k2m5 : Method := { name := "delivered", desc := "()I", sig := { parameters := [], returnType := some .int }, accessFlags := 1, code := some k2c5 }
def k2c6 : Code := { maxStack := 2, maxLocals := 3, code := prog_1_method_8_code, exceptionTable := #[], attributes := #[] }
def k2m6 : Method := { name := "car", desc := "(II)I", sig := { parameters := [.int, .int], returnType := some .int }, accessFlags := 1, code := some k2c6 }
def k2c7 : Code := { maxStack := 2, maxLocals := 3, code := prog_1_method_9_code, exceptionTable := #[], attributes := #[] }
def k2m7 : Method := { name := "passenger", desc := "(II)I", sig := { parameters := [.int, .int], returnType := some .int }, accessFlags := 1, code := some k2c7 }
def k2c8 : Code := { maxStack := 4, maxLocals := 3, code := prog_1_method_12_code, exceptionTable := #[], attributes := #[] }
def k2m8 : Method := { name := "waitSum", desc := "()I", sig := { parameters := [], returnType := some .int }, accessFlags := 1, code := some k2c8 }
def k2c9 : Code := { maxStack := 4, maxLocals := 3, code := prog_1_method_13_code, exceptionTable := #[], attributes := #[] }
def k2m9 : Method := { name := "journeySum", desc := "()I", sig := { parameters := [], returnType := some .int }, accessFlags := 1, code := some k2c9 }
def k2c10 : Code := { maxStack := 3, maxLocals := 7, code := prog_1_method_14_code, exceptionTable := #[], attributes := #[] }
def k2m10 : Method := { name := "histogram", desc := "(II)I", sig := { parameters := [.int, .int], returnType := some .int }, accessFlags := 1, code := some k2c10 }
def k2c11 : Code := { maxStack := 2, maxLocals := 4, code := prog_1_method_15_code, exceptionTable := #[], attributes := #[] }
def k2m11 : Method := { name := "clamp", desc := "(III)I", sig := { parameters := [.int, .int, .int], returnType := some .int }, accessFlags := 2, code := some k2c11 }
def k2c12 : Code := { maxStack := 2, maxLocals := 2, code := prog_1_method_16_code, exceptionTable := #[], attributes := #[] }
def k2m12 : Method := { name := "bucketOf", desc := "(I)I", sig := { parameters := [.int], returnType := some .int }, accessFlags := 2, code := some k2c12 }
def k2c13 : Code := { maxStack := 3, maxLocals := 2, code := prog_1_method_17_code, exceptionTable := #[], attributes := #[] }
def k2m13 : Method := { name := "direction", desc := "(I)I", sig := { parameters := [.int], returnType := some .int }, accessFlags := 2, code := some k2c13 }
def k2c14 : Code := { maxStack := 3, maxLocals := 3, code := prog_1_method_18_code, exceptionTable := #[], attributes := #[] }
def k2m14 : Method := { name := "slotIndex", desc := "(II)I", sig := { parameters := [.int, .int], returnType := some .int }, accessFlags := 2, code := some k2c14 }
def k2c15 : Code := { maxStack := 2, maxLocals := 4, code := prog_1_method_19_code, exceptionTable := #[], attributes := #[] }
def k2m15 : Method := { name := "waitingDir", desc := "(II)Z", sig := { parameters := [.int, .int], returnType := some .boolean }, accessFlags := 2, code := some k2c15 }
def k2c16 : Code := { maxStack := 4, maxLocals := 4, code := prog_1_method_20_code, exceptionTable := #[], attributes := #[] }
def k2m16 : Method := { name := "assigned", desc := "(III)Z", sig := { parameters := [.int, .int, .int], returnType := some .boolean }, accessFlags := 2, code := some k2c16 }
def k2c17 : Code := { maxStack := 2, maxLocals := 4, code := prog_1_method_21_code, exceptionTable := #[], attributes := #[] }
def k2m17 : Method := { name := "ridingTo", desc := "(II)Z", sig := { parameters := [.int, .int], returnType := some .boolean }, accessFlags := 2, code := some k2c17 }
def k2c18 : Code := { maxStack := 4, maxLocals := 3, code := prog_1_method_22_code, exceptionTable := #[], attributes := #[] }
def k2m18 : Method := { name := "isTarget", desc := "(II)Z", sig := { parameters := [.int, .int], returnType := some .boolean }, accessFlags := 2, code := some k2c18 }
def k2c19 : Code := { maxStack := 3, maxLocals := 6, code := prog_1_method_23_code, exceptionTable := #[], attributes := #[] }
def k2m19 : Method := { name := "beyond", desc := "(II)Z", sig := { parameters := [.int, .int], returnType := some .boolean }, accessFlags := 2, code := some k2c19 }
def k2c20 : Code := { maxStack := 2, maxLocals := 2, code := prog_1_method_24_code, exceptionTable := #[], attributes := #[] }
def k2m20 : Method := { name := "room", desc := "(I)Z", sig := { parameters := [.int], returnType := some .boolean }, accessFlags := 2, code := some k2c20 }
def k2c21 : Code := { maxStack := 3, maxLocals := 4, code := prog_1_method_25_code, exceptionTable := #[], attributes := #[] }
def k2m21 : Method := { name := "choose", desc := "(I)I", sig := { parameters := [.int], returnType := some .int }, accessFlags := 2, code := some k2c21 }
def k2c22 : Code := { maxStack := 3, maxLocals := 2, code := prog_1_method_26_code, exceptionTable := #[], attributes := #[] }
def k2m22 : Method := { name := "tick", desc := "()V", sig := { parameters := [], returnType := none }, accessFlags := 2, code := some k2c22 }
def k2c23 : Code := { maxStack := 3, maxLocals := 2, code := prog_1_method_27_code, exceptionTable := #[], attributes := #[] }
def k2m23 : Method := { name := "arrivals", desc := "()V", sig := { parameters := [], returnType := none }, accessFlags := 2, code := some k2c23 }
def k2c24 : Code := { maxStack := 3, maxLocals := 4, code := prog_1_method_28_code, exceptionTable := #[], attributes := #[] }
def k2m24 : Method := { name := "dispatch", desc := "()V", sig := { parameters := [], returnType := none }, accessFlags := 2, code := some k2c24 }
def k2c25 : Code := { maxStack := 4, maxLocals := 8, code := prog_1_method_29_code, exceptionTable := #[], attributes := #[] }
def k2m25 : Method := { name := "assignCall", desc := "(II)V", sig := { parameters := [.int, .int], returnType := none }, accessFlags := 2, code := some k2c25 }
def k2c26 : Code := { maxStack := 3, maxLocals := 10, code := prog_1_method_30_code, exceptionTable := #[], attributes := #[] }
def k2m26 : Method := { name := "eta", desc := "(III)I", sig := { parameters := [.int, .int, .int], returnType := some .int }, accessFlags := 2, code := some k2c26 }
def k2c27 : Code := { maxStack := 2, maxLocals := 3, code := prog_1_method_31_code, exceptionTable := #[], attributes := #[] }
def k2m27 : Method := { name := "runCar", desc := "(I)V", sig := { parameters := [.int], returnType := none }, accessFlags := 2, code := some k2c27 }
def k2c28 : Code := { maxStack := 3, maxLocals := 3, code := prog_1_method_32_code, exceptionTable := #[], attributes := #[] }
def k2m28 : Method := { name := "stepStopped", desc := "(I)V", sig := { parameters := [.int], returnType := none }, accessFlags := 2, code := some k2c28 }
def k2c29 : Code := { maxStack := 4, maxLocals := 6, code := prog_1_method_33_code, exceptionTable := #[], attributes := #[] }
def k2m29 : Method := { name := "stepMoving", desc := "(I)V", sig := { parameters := [.int], returnType := none }, accessFlags := 2, code := some k2c29 }
def k2c30 : Code := { maxStack := 4, maxLocals := 5, code := prog_1_method_34_code, exceptionTable := #[], attributes := #[] }
def k2m30 : Method := { name := "stepOpen", desc := "(I)V", sig := { parameters := [.int], returnType := none }, accessFlags := 2, code := some k2c30 }
def k2c31 : Code := { maxStack := 4, maxLocals := 5, code := prog_1_method_35_code, exceptionTable := #[], attributes := #[] }
def k2m31 : Method := { name := "deliverAt", desc := "(I)Z", sig := { parameters := [.int], returnType := some .boolean }, accessFlags := 2, code := some k2c31 }
def k2c32 : Code := { maxStack := 4, maxLocals := 6, code := prog_1_method_36_code, exceptionTable := #[], attributes := #[] }
def k2m32 : Method := { name := "boardAt", desc := "(II)Z", sig := { parameters := [.int, .int], returnType := some .boolean }, accessFlags := 2, code := some k2c32 }
def k2c33 : Code := { maxStack := 3, maxLocals := 3, code := prog_1_method_37_code, exceptionTable := #[], attributes := #[] }
def k2m33 : Method := { name := "stepClosing", desc := "(I)V", sig := { parameters := [.int], returnType := none }, accessFlags := 2, code := some k2c33 }
/-- ElevatorBank -/
def k2 : Class := { plain "ElevatorBank" (some 0) with
  accessFlags := 49
  interfaces := #[]
  cf := some (fileOf pool2 8 #[] #[{ accessFlags := 1, nameIndex := 5, descriptorIndex := 196, attributes := #[] }, { accessFlags := 1, nameIndex := 72, descriptorIndex := 52, attributes := #[] }, { accessFlags := 1, nameIndex := 201, descriptorIndex := 90, attributes := #[] }, { accessFlags := 1, nameIndex := 202, descriptorIndex := 203, attributes := #[] }, { accessFlags := 1, nameIndex := 204, descriptorIndex := 203, attributes := #[] }, { accessFlags := 1, nameIndex := 205, descriptorIndex := 203, attributes := #[] }, { accessFlags := 1, nameIndex := 206, descriptorIndex := 86, attributes := #[] }, { accessFlags := 1, nameIndex := 207, descriptorIndex := 86, attributes := #[] }, { accessFlags := 1, nameIndex := 210, descriptorIndex := 203, attributes := #[] }, { accessFlags := 1, nameIndex := 211, descriptorIndex := 203, attributes := #[] }, { accessFlags := 1, nameIndex := 212, descriptorIndex := 86, attributes := #[] }, { accessFlags := 2, nameIndex := 51, descriptorIndex := 52, attributes := #[] }, { accessFlags := 2, nameIndex := 89, descriptorIndex := 90, attributes := #[] }, { accessFlags := 2, nameIndex := 93, descriptorIndex := 90, attributes := #[] }, { accessFlags := 2, nameIndex := 85, descriptorIndex := 86, attributes := #[] }, { accessFlags := 2, nameIndex := 81, descriptorIndex := 82, attributes := #[] }, { accessFlags := 2, nameIndex := 99, descriptorIndex := 100, attributes := #[] }, { accessFlags := 2, nameIndex := 96, descriptorIndex := 82, attributes := #[] }, { accessFlags := 2, nameIndex := 103, descriptorIndex := 82, attributes := #[] }, { accessFlags := 2, nameIndex := 106, descriptorIndex := 82, attributes := #[] }, { accessFlags := 2, nameIndex := 141, descriptorIndex := 142, attributes := #[] }, { accessFlags := 2, nameIndex := 138, descriptorIndex := 90, attributes := #[] }, { accessFlags := 2, nameIndex := 78, descriptorIndex := 6, attributes := #[] }, { accessFlags := 2, nameIndex := 109, descriptorIndex := 6, attributes := #[] }, { accessFlags := 2, nameIndex := 112, descriptorIndex := 6, attributes := #[] }, { accessFlags := 2, nameIndex := 119, descriptorIndex := 120, attributes := #[] }, { accessFlags := 2, nameIndex := 123, descriptorIndex := 52, attributes := #[] }, { accessFlags := 2, nameIndex := 115, descriptorIndex := 116, attributes := #[] }, { accessFlags := 2, nameIndex := 126, descriptorIndex := 116, attributes := #[] }, { accessFlags := 2, nameIndex := 129, descriptorIndex := 116, attributes := #[] }, { accessFlags := 2, nameIndex := 132, descriptorIndex := 116, attributes := #[] }, { accessFlags := 2, nameIndex := 145, descriptorIndex := 142, attributes := #[] }, { accessFlags := 2, nameIndex := 148, descriptorIndex := 82, attributes := #[] }, { accessFlags := 2, nameIndex := 135, descriptorIndex := 116, attributes := #[] }] 49 2 #[] #[{ accessFlags := 25, nameIndex := 149, descriptorIndex := 56, attributes := #[] }, { accessFlags := 25, nameIndex := 152, descriptorIndex := 56, attributes := #[] }, { accessFlags := 25, nameIndex := 154, descriptorIndex := 56, attributes := #[] }, { accessFlags := 25, nameIndex := 156, descriptorIndex := 56, attributes := #[] }, { accessFlags := 25, nameIndex := 157, descriptorIndex := 56, attributes := #[] }, { accessFlags := 25, nameIndex := 159, descriptorIndex := 56, attributes := #[] }, { accessFlags := 25, nameIndex := 161, descriptorIndex := 56, attributes := #[] }, { accessFlags := 25, nameIndex := 163, descriptorIndex := 56, attributes := #[] }, { accessFlags := 25, nameIndex := 164, descriptorIndex := 56, attributes := #[] }, { accessFlags := 25, nameIndex := 166, descriptorIndex := 56, attributes := #[] }, { accessFlags := 25, nameIndex := 168, descriptorIndex := 56, attributes := #[] }, { accessFlags := 25, nameIndex := 169, descriptorIndex := 56, attributes := #[] }, { accessFlags := 25, nameIndex := 170, descriptorIndex := 56, attributes := #[] }, { accessFlags := 25, nameIndex := 171, descriptorIndex := 56, attributes := #[] }, { accessFlags := 25, nameIndex := 172, descriptorIndex := 56, attributes := #[] }, { accessFlags := 25, nameIndex := 174, descriptorIndex := 56, attributes := #[] }, { accessFlags := 25, nameIndex := 175, descriptorIndex := 56, attributes := #[] }, { accessFlags := 25, nameIndex := 176, descriptorIndex := 56, attributes := #[] }, { accessFlags := 25, nameIndex := 177, descriptorIndex := 56, attributes := #[] }, { accessFlags := 25, nameIndex := 178, descriptorIndex := 56, attributes := #[] }, { accessFlags := 25, nameIndex := 179, descriptorIndex := 56, attributes := #[] }, { accessFlags := 25, nameIndex := 181, descriptorIndex := 56, attributes := #[] }, { accessFlags := 25, nameIndex := 183, descriptorIndex := 56, attributes := #[] }, { accessFlags := 25, nameIndex := 184, descriptorIndex := 56, attributes := #[] }, { accessFlags := 25, nameIndex := 185, descriptorIndex := 56, attributes := #[] }, { accessFlags := 25, nameIndex := 186, descriptorIndex := 56, attributes := #[] }, { accessFlags := 25, nameIndex := 187, descriptorIndex := 56, attributes := #[] }, { accessFlags := 25, nameIndex := 188, descriptorIndex := 56, attributes := #[] }, { accessFlags := 25, nameIndex := 189, descriptorIndex := 56, attributes := #[] }, { accessFlags := 25, nameIndex := 190, descriptorIndex := 56, attributes := #[] }, { accessFlags := 25, nameIndex := 191, descriptorIndex := 56, attributes := #[] }, { accessFlags := 25, nameIndex := 192, descriptorIndex := 56, attributes := #[] }, { accessFlags := 25, nameIndex := 194, descriptorIndex := 56, attributes := #[] }, { accessFlags := 2, nameIndex := 55, descriptorIndex := 56, attributes := #[] }, { accessFlags := 2, nameIndex := 59, descriptorIndex := 56, attributes := #[] }, { accessFlags := 2, nameIndex := 62, descriptorIndex := 56, attributes := #[] }, { accessFlags := 2, nameIndex := 68, descriptorIndex := 56, attributes := #[] }, { accessFlags := 2, nameIndex := 65, descriptorIndex := 56, attributes := #[] }, { accessFlags := 2, nameIndex := 75, descriptorIndex := 56, attributes := #[] }, { accessFlags := 2, nameIndex := 11, descriptorIndex := 12, attributes := #[] }, { accessFlags := 2, nameIndex := 15, descriptorIndex := 12, attributes := #[] }, { accessFlags := 2, nameIndex := 18, descriptorIndex := 12, attributes := #[] }, { accessFlags := 2, nameIndex := 21, descriptorIndex := 12, attributes := #[] }, { accessFlags := 2, nameIndex := 24, descriptorIndex := 12, attributes := #[] }, { accessFlags := 2, nameIndex := 27, descriptorIndex := 12, attributes := #[] }, { accessFlags := 2, nameIndex := 30, descriptorIndex := 12, attributes := #[] }, { accessFlags := 2, nameIndex := 33, descriptorIndex := 12, attributes := #[] }, { accessFlags := 2, nameIndex := 36, descriptorIndex := 12, attributes := #[] }, { accessFlags := 2, nameIndex := 39, descriptorIndex := 12, attributes := #[] }, { accessFlags := 2, nameIndex := 42, descriptorIndex := 12, attributes := #[] }, { accessFlags := 2, nameIndex := 45, descriptorIndex := 12, attributes := #[] }, { accessFlags := 2, nameIndex := 48, descriptorIndex := 12, attributes := #[] }])
  fields := #[{ name := "UP", type := .int, accessFlags := 25, slot := 0, constantValue := 0 }, { name := "DOWN", type := .int, accessFlags := 25, slot := 1, constantValue := 0 }, { name := "INVALID", type := .int, accessFlags := 25, slot := 2, constantValue := 0 }, { name := "ERR_FULL", type := .int, accessFlags := 25, slot := 3, constantValue := 0 }, { name := "ERR_FLOOR", type := .int, accessFlags := 25, slot := 4, constantValue := 0 }, { name := "ERR_TIME", type := .int, accessFlags := 25, slot := 5, constantValue := 0 }, { name := "STOPPED", type := .int, accessFlags := 25, slot := 6, constantValue := 0 }, { name := "OPEN", type := .int, accessFlags := 25, slot := 7, constantValue := 0 }, { name := "CLOSING", type := .int, accessFlags := 25, slot := 8, constantValue := 0 }, { name := "MOVING", type := .int, accessFlags := 25, slot := 9, constantValue := 0 }, { name := "C_FLOOR", type := .int, accessFlags := 25, slot := 10, constantValue := 0 }, { name := "C_STATE", type := .int, accessFlags := 25, slot := 11, constantValue := 0 }, { name := "C_DIR", type := .int, accessFlags := 25, slot := 12, constantValue := 0 }, { name := "C_LOAD", type := .int, accessFlags := 25, slot := 13, constantValue := 0 }, { name := "C_TIMER", type := .int, accessFlags := 25, slot := 14, constantValue := 0 }, { name := "P_STATE", type := .int, accessFlags := 25, slot := 15, constantValue := 0 }, { name := "P_FROM", type := .int, accessFlags := 25, slot := 16, constantValue := 0 }, { name := "P_TO", type := .int, accessFlags := 25, slot := 17, constantValue := 0 }, { name := "P_ARRIVE", type := .int, accessFlags := 25, slot := 18, constantValue := 0 }, { name := "P_BOARD", type := .int, accessFlags := 25, slot := 19, constantValue := 0 }, { name := "P_DELIVER", type := .int, accessFlags := 25, slot := 20, constantValue := 0 }, { name := "P_CAR", type := .int, accessFlags := 25, slot := 21, constantValue := 0 }, { name := "SCHEDULED", type := .int, accessFlags := 25, slot := 22, constantValue := 0 }, { name := "WAITING", type := .int, accessFlags := 25, slot := 23, constantValue := 0 }, { name := "RIDING", type := .int, accessFlags := 25, slot := 24, constantValue := 0 }, { name := "DELIVERED", type := .int, accessFlags := 25, slot := 25, constantValue := 0 }, { name := "WAIT", type := .int, accessFlags := 25, slot := 26, constantValue := 0 }, { name := "JOURNEY", type := .int, accessFlags := 25, slot := 27, constantValue := 0 }, { name := "DWELL", type := .int, accessFlags := 25, slot := 28, constantValue := 0 }, { name := "START", type := .int, accessFlags := 25, slot := 29, constantValue := 0 }, { name := "CRUISE", type := .int, accessFlags := 25, slot := 30, constantValue := 0 }, { name := "FULL_PENALTY", type := .int, accessFlags := 25, slot := 31, constantValue := 0 }, { name := "MAX_PASSENGERS", type := .int, accessFlags := 25, slot := 32, constantValue := 0 }, { name := "nCars", type := .int, accessFlags := 2, slot := 0, constantValue := 0 }, { name := "nFloors", type := .int, accessFlags := 2, slot := 1, constantValue := 0 }, { name := "cap", type := .int, accessFlags := 2, slot := 2, constantValue := 0 }, { name := "nowT", type := .int, accessFlags := 2, slot := 3, constantValue := 0 }, { name := "pCount", type := .int, accessFlags := 2, slot := 4, constantValue := 0 }, { name := "deliveredInCall", type := .int, accessFlags := 2, slot := 5, constantValue := 0 }, { name := "cFloor", type := (.array .int), accessFlags := 2, slot := 6, constantValue := 0 }, { name := "cState", type := (.array .int), accessFlags := 2, slot := 7, constantValue := 0 }, { name := "cDir", type := (.array .int), accessFlags := 2, slot := 8, constantValue := 0 }, { name := "cLoad", type := (.array .int), accessFlags := 2, slot := 9, constantValue := 0 }, { name := "cTimer", type := (.array .int), accessFlags := 2, slot := 10, constantValue := 0 }, { name := "pState", type := (.array .int), accessFlags := 2, slot := 11, constantValue := 0 }, { name := "pFrom", type := (.array .int), accessFlags := 2, slot := 12, constantValue := 0 }, { name := "pTo", type := (.array .int), accessFlags := 2, slot := 13, constantValue := 0 }, { name := "pArrive", type := (.array .int), accessFlags := 2, slot := 14, constantValue := 0 }, { name := "pBoard", type := (.array .int), accessFlags := 2, slot := 15, constantValue := 0 }, { name := "pDeliver", type := (.array .int), accessFlags := 2, slot := 16, constantValue := 0 }, { name := "pCar", type := (.array .int), accessFlags := 2, slot := 17, constantValue := 0 }, { name := "slot", type := (.array .int), accessFlags := 2, slot := 18, constantValue := 0 }]
  methods := #[k2m0, k2m1, k2m2, k2m3, k2m4, k2m5, k2m6, k2m7, k2m8, k2m9, k2m10, k2m11, k2m12, k2m13, k2m14, k2m15, k2m16, k2m17, k2m18, k2m19, k2m20, k2m21, k2m22, k2m23, k2m24, k2m25, k2m26, k2m27, k2m28, k2m29, k2m30, k2m31, k2m32, k2m33]
  instanceTypes := #[.int, .int, .int, .int, .int, .int, (.array .int), (.array .int), (.array .int), (.array .int), (.array .int), (.array .int), (.array .int), (.array .int), (.array .int), (.array .int), (.array .int), (.array .int), (.array .int)]
  staticTypes := #[.int, .int, .int, .int, .int, .int, .int, .int, .int, .int, .int, .int, .int, .int, .int, .int, .int, .int, .int, .int, .int, .int, .int, .int, .int, .int, .int, .int, .int, .int, .int, .int, .int]
  resolved := Array.replicate 215 none
  statics := none }

def pool3 : Array CpInfo := pool [(1, u "java/lang/Cloneable"), (0, .class_ 1), (0, u "java/lang/Object"), (0, .class_ 3)] 3

/-- java/lang/Cloneable -/
def k3 : Class := { plain "java/lang/Cloneable" (some 0) with
  accessFlags := 1537
  interfaces := #[]
  cf := some (fileOf pool3 2 #[] #[] 1537 4 #[] #[])
  fields := #[]
  methods := #[]
  instanceTypes := #[]
  staticTypes := #[]
  resolved := Array.replicate 8 none
  statics := none }

def pool4 : Array CpInfo := pool [(1, u "java/io/Serializable"), (0, .class_ 1), (0, u "java/lang/Object"), (0, .class_ 3)] 3

/-- java/io/Serializable -/
def k4 : Class := { plain "java/io/Serializable" (some 0) with
  accessFlags := 1537
  interfaces := #[]
  cf := some (fileOf pool4 2 #[] #[] 1537 4 #[] #[])
  fields := #[]
  methods := #[]
  instanceTypes := #[]
  staticTypes := #[]
  resolved := Array.replicate 8 none
  statics := none }

/-- the primitive byte -/
def k5 : Class := { plain "byte" none with kind := .primitive 'B', accessFlags := 0x411 }
/-- [B -/
def k6 : Class := { plain "[B" (some 0) with kind := .array 5 .byte, interfaces := #[3, 4], accessFlags := 1041 }

/-- the primitive int -/
def k7 : Class := { plain "int" none with kind := .primitive 'I', accessFlags := 0x411 }
/-- [I -/
def k8 : Class := { plain "[I" (some 0) with kind := .array 7 .int, interfaces := #[3, 4], accessFlags := 1041 }

def heap : Heap := #[]
def classes : Array Class := #[k0, k1, k2, k3, k4, k5, k6, k7, k8]
def interned : List (Array UInt16 × Addr) := []
def slotsUsed : Nat := 0
def theMethod : MethodId := ⟨1, 1⟩
def args0 : Array Value := #[.int 5, .int 2, .int 3, .int 1]
def aboutOver (below : List Frame) : State where
  vm := { classes := classes, interned := interned.toArray }
  heap := heap
  slotsUsed := slotsUsed
  threads := #[{ frames := .invoking theMethod args0 :: below }]
def below0 : List Frame := [.native { method := ⟨0, 0⟩, args := #[] }]
def about1 : State := aboutOver below0
def p0 : Program := .bare "" "" ""
def e0 : Env := launch0.env 0 0 0
theorem w_frames : about1.frames = Frame.invoking theMethod args0 :: below0 := rfl
set_option maxRecDepth 65536 in
theorem w_args : argsFit about1.vm theMethod args0 = true := by decide +kernel
set_option maxRecDepth 65536 in
theorem w_heap : heapFits about1 = true := by decide +kernel
set_option maxRecDepth 65536 in
theorem w_runnable : about1.curStatus? = some .runnable := by decide +kernel
set_option maxRecDepth 65536 in
theorem w_alone : about1.alone = true := by decide +kernel
set_option maxRecDepth 65536 in
theorem w_named : about1.methodNamed? x = some theMethod := by decide +kernel
set_option maxRecDepth 65536 in
theorem w_hears : about1.hears theMethod below0 = true := by decide +kernel
set_option maxRecDepth 65536 in
theorem w_ripe : about1.ripe theMethod args0 below0 = true := by decide +kernel
theorem w_running : about1.status = .running := rfl
set_option maxRecDepth 65536 in
theorem w_room : about1.hasRoom e0.platform room_1 = true :=
  launch0.hasRoom_least _ room_1 (by decide +kernel) (by decide +kernel) (by decide +kernel) (by decide +kernel) (by decide +kernel) (by decide +kernel)
theorem allAtoms_all (ts : List Jvm.Cond) (a : Array Jvm.Value) (st : Jvm.State) : (allAtoms ts).before a st = ts.all (fun c => c.before a st) := by
  induction ts with
  | nil => rfl
  | cons c t ih =>
    show (Jvm.Cond.and c (allAtoms t)).before a st = _
    rw [Jvm.Cond.before_and, ih, List.all_cons]
def words1 : List Jvm.Cond := Jvm.Cond.code x code maxLocals ret :: tables_1
/-- a 'code' word, met by the world's own term for the bytes: nothing is compared byte by byte -/
theorem code_word {y : MethodName} {bytes : ByteArray} {mx : Nat} {rt : Option FieldType} {a : Array Value} {s : State} {m : MethodId} {meth : Method} {c : Code} (h1 : s.methodNamed? y = some m) (h2 : s.vm.method? m = some meth) (h3 : meth.code = some c) (h4 : c.code = bytes)
    (h5 : (c.maxLocals == mx && c.exceptionTable.isEmpty && decide (c.maxStack ≤ mostOperands) && decide (meth.sig.returnType = rt) && !meth.locks && decide (parseMethodDescriptor y.desc = some meth.sig)) = true) : (Jvm.Cond.code y bytes mx rt).before a s = true := by
  simp only [Bool.and_eq_true, beq_iff_eq, Bool.not_eq_true', decide_eq_true_eq] at h5
  obtain ⟨⟨⟨⟨⟨g1, g2⟩, g3⟩, g4⟩, g5⟩, g6⟩ := h5
  simp [Cond.before, Cond.holds, Cond.value, h1, h2, h3, h4, g1, g2, g3, g4, g5, g6]
def isCode : Jvm.Cond → Bool
  | .code _ _ _ _ => true
  | _ => false
theorem all_split {L : List Jvm.Cond} {P : Jvm.Cond → Bool} (h1 : L.all (fun c => isCode c || P c) = true) (h2 : ∀ c ∈ L.filter isCode, P c = true) : L.all P = true := by
  refine List.all_eq_true.mpr fun c hc => ?_
  have h := List.all_eq_true.mp h1 c hc
  rcases Bool.eq_false_or_eq_true (isCode c) with hi | hi
  · exact h2 c (List.mem_filter.mpr ⟨hc, hi⟩)
  · simpa [hi] using h
set_option maxRecDepth 65536 in
theorem w_c0 : (Jvm.Cond.code x code maxLocals ret).before args0 about1 = true := code_word (m := ⟨1, 1⟩) (meth := k1m1) (c := k1c1) (by decide +kernel) rfl rfl rfl (by decide +kernel)
set_option maxRecDepth 65536 in
theorem w_c1 : (Jvm.Cond.code ({ cls := "ElevatorBank", name := "<init>", desc := "(III)V" } : Jvm.MethodName) prog_1_method_1_code (5 : Nat) (Option.none : Option Jvm.ClassFile.FieldType)).before args0 about1 = true := code_word (m := ⟨2, 0⟩) (meth := k2m0) (c := k2c0) (by decide +kernel) rfl rfl rfl (by decide +kernel)
set_option maxRecDepth 65536 in
theorem w_c2 : (Jvm.Cond.code ({ cls := "java/lang/Object", name := "<init>", desc := "()V" } : Jvm.MethodName) object_method_1_code (1 : Nat) (Option.none : Option Jvm.ClassFile.FieldType)).before args0 about1 = true := code_word (m := ⟨0, 0⟩) (meth := k0m0) (c := k0c0) (by decide +kernel) rfl rfl rfl (by decide +kernel)
set_option maxRecDepth 65536 in
theorem w_c3 : (Jvm.Cond.code ({ cls := "ElevatorBank", name := "clamp", desc := "(III)I" } : Jvm.MethodName) prog_1_method_15_code (4 : Nat) (Option.some Jvm.ClassFile.FieldType.int)).before args0 about1 = true := code_word (m := ⟨2, 11⟩) (meth := k2m11) (c := k2c11) (by decide +kernel) rfl rfl rfl (by decide +kernel)
set_option maxRecDepth 65536 in
theorem w_c4 : (Jvm.Cond.code ({ cls := "ElevatorBank", name := "addPassenger", desc := "(III)I" } : Jvm.MethodName) prog_1_method_2_code (5 : Nat) (Option.some Jvm.ClassFile.FieldType.int)).before args0 about1 = true := code_word (m := ⟨2, 1⟩) (meth := k2m1) (c := k2c1) (by decide +kernel) rfl rfl rfl (by decide +kernel)
set_option maxRecDepth 65536 in
theorem w_c5 : (Jvm.Cond.code ({ cls := "ElevatorBank", name := "passengers", desc := "()I" } : Jvm.MethodName) prog_1_method_6_code (1 : Nat) (Option.some Jvm.ClassFile.FieldType.int)).before args0 about1 = true := code_word (m := ⟨2, 4⟩) (meth := k2m4) (c := k2c4) (by decide +kernel) rfl rfl rfl (by decide +kernel)
set_option maxRecDepth 65536 in
theorem w_c6 : (Jvm.Cond.code ({ cls := "ElevatorBank", name := "step", desc := "(I)I" } : Jvm.MethodName) prog_1_method_4_code (4 : Nat) (Option.some Jvm.ClassFile.FieldType.int)).before args0 about1 = true := code_word (m := ⟨2, 2⟩) (meth := k2m2) (c := k2c2) (by decide +kernel) rfl rfl rfl (by decide +kernel)
set_option maxRecDepth 65536 in
theorem w_c7 : (Jvm.Cond.code ({ cls := "ElevatorBank", name := "tick", desc := "()V" } : Jvm.MethodName) prog_1_method_26_code (2 : Nat) (Option.none : Option Jvm.ClassFile.FieldType)).before args0 about1 = true := code_word (m := ⟨2, 22⟩) (meth := k2m22) (c := k2c22) (by decide +kernel) rfl rfl rfl (by decide +kernel)
set_option maxRecDepth 65536 in
theorem w_c8 : (Jvm.Cond.code ({ cls := "ElevatorBank", name := "arrivals", desc := "()V" } : Jvm.MethodName) prog_1_method_27_code (2 : Nat) (Option.none : Option Jvm.ClassFile.FieldType)).before args0 about1 = true := code_word (m := ⟨2, 23⟩) (meth := k2m23) (c := k2c23) (by decide +kernel) rfl rfl rfl (by decide +kernel)
set_option maxRecDepth 65536 in
theorem w_c9 : (Jvm.Cond.code ({ cls := "ElevatorBank", name := "dispatch", desc := "()V" } : Jvm.MethodName) prog_1_method_28_code (4 : Nat) (Option.none : Option Jvm.ClassFile.FieldType)).before args0 about1 = true := code_word (m := ⟨2, 24⟩) (meth := k2m24) (c := k2c24) (by decide +kernel) rfl rfl rfl (by decide +kernel)
set_option maxRecDepth 65536 in
theorem w_c10 : (Jvm.Cond.code ({ cls := "ElevatorBank", name := "assignCall", desc := "(II)V" } : Jvm.MethodName) prog_1_method_29_code (8 : Nat) (Option.none : Option Jvm.ClassFile.FieldType)).before args0 about1 = true := code_word (m := ⟨2, 25⟩) (meth := k2m25) (c := k2c25) (by decide +kernel) rfl rfl rfl (by decide +kernel)
set_option maxRecDepth 65536 in
theorem w_c11 : (Jvm.Cond.code ({ cls := "ElevatorBank", name := "slotIndex", desc := "(II)I" } : Jvm.MethodName) prog_1_method_18_code (3 : Nat) (Option.some Jvm.ClassFile.FieldType.int)).before args0 about1 = true := code_word (m := ⟨2, 14⟩) (meth := k2m14) (c := k2c14) (by decide +kernel) rfl rfl rfl (by decide +kernel)
set_option maxRecDepth 65536 in
theorem w_c12 : (Jvm.Cond.code ({ cls := "ElevatorBank", name := "waitingDir", desc := "(II)Z" } : Jvm.MethodName) prog_1_method_19_code (4 : Nat) (Option.some Jvm.ClassFile.FieldType.boolean)).before args0 about1 = true := code_word (m := ⟨2, 15⟩) (meth := k2m15) (c := k2c15) (by decide +kernel) rfl rfl rfl (by decide +kernel)
set_option maxRecDepth 65536 in
theorem w_c13 : (Jvm.Cond.code ({ cls := "ElevatorBank", name := "direction", desc := "(I)I" } : Jvm.MethodName) prog_1_method_17_code (2 : Nat) (Option.some Jvm.ClassFile.FieldType.int)).before args0 about1 = true := code_word (m := ⟨2, 13⟩) (meth := k2m13) (c := k2c13) (by decide +kernel) rfl rfl rfl (by decide +kernel)
set_option maxRecDepth 65536 in
theorem w_c14 : (Jvm.Cond.code ({ cls := "ElevatorBank", name := "eta", desc := "(III)I" } : Jvm.MethodName) prog_1_method_30_code (10 : Nat) (Option.some Jvm.ClassFile.FieldType.int)).before args0 about1 = true := code_word (m := ⟨2, 26⟩) (meth := k2m26) (c := k2c26) (by decide +kernel) rfl rfl rfl (by decide +kernel)
set_option maxRecDepth 65536 in
theorem w_c15 : (Jvm.Cond.code ({ cls := "ElevatorBank", name := "runCar", desc := "(I)V" } : Jvm.MethodName) prog_1_method_31_code (3 : Nat) (Option.none : Option Jvm.ClassFile.FieldType)).before args0 about1 = true := code_word (m := ⟨2, 27⟩) (meth := k2m27) (c := k2c27) (by decide +kernel) rfl rfl rfl (by decide +kernel)
set_option maxRecDepth 65536 in
theorem w_c16 : (Jvm.Cond.code ({ cls := "ElevatorBank", name := "stepStopped", desc := "(I)V" } : Jvm.MethodName) prog_1_method_32_code (3 : Nat) (Option.none : Option Jvm.ClassFile.FieldType)).before args0 about1 = true := code_word (m := ⟨2, 28⟩) (meth := k2m28) (c := k2c28) (by decide +kernel) rfl rfl rfl (by decide +kernel)
set_option maxRecDepth 65536 in
theorem w_c17 : (Jvm.Cond.code ({ cls := "ElevatorBank", name := "choose", desc := "(I)I" } : Jvm.MethodName) prog_1_method_25_code (4 : Nat) (Option.some Jvm.ClassFile.FieldType.int)).before args0 about1 = true := code_word (m := ⟨2, 21⟩) (meth := k2m21) (c := k2c21) (by decide +kernel) rfl rfl rfl (by decide +kernel)
set_option maxRecDepth 65536 in
theorem w_c18 : (Jvm.Cond.code ({ cls := "ElevatorBank", name := "beyond", desc := "(II)Z" } : Jvm.MethodName) prog_1_method_23_code (6 : Nat) (Option.some Jvm.ClassFile.FieldType.boolean)).before args0 about1 = true := code_word (m := ⟨2, 19⟩) (meth := k2m19) (c := k2c19) (by decide +kernel) rfl rfl rfl (by decide +kernel)
set_option maxRecDepth 65536 in
theorem w_c19 : (Jvm.Cond.code ({ cls := "ElevatorBank", name := "isTarget", desc := "(II)Z" } : Jvm.MethodName) prog_1_method_22_code (3 : Nat) (Option.some Jvm.ClassFile.FieldType.boolean)).before args0 about1 = true := code_word (m := ⟨2, 18⟩) (meth := k2m18) (c := k2c18) (by decide +kernel) rfl rfl rfl (by decide +kernel)
set_option maxRecDepth 65536 in
theorem w_c20 : (Jvm.Cond.code ({ cls := "ElevatorBank", name := "ridingTo", desc := "(II)Z" } : Jvm.MethodName) prog_1_method_21_code (4 : Nat) (Option.some Jvm.ClassFile.FieldType.boolean)).before args0 about1 = true := code_word (m := ⟨2, 17⟩) (meth := k2m17) (c := k2c17) (by decide +kernel) rfl rfl rfl (by decide +kernel)
set_option maxRecDepth 65536 in
theorem w_c21 : (Jvm.Cond.code ({ cls := "ElevatorBank", name := "assigned", desc := "(III)Z" } : Jvm.MethodName) prog_1_method_20_code (4 : Nat) (Option.some Jvm.ClassFile.FieldType.boolean)).before args0 about1 = true := code_word (m := ⟨2, 16⟩) (meth := k2m16) (c := k2c16) (by decide +kernel) rfl rfl rfl (by decide +kernel)
set_option maxRecDepth 65536 in
theorem w_c22 : (Jvm.Cond.code ({ cls := "ElevatorBank", name := "room", desc := "(I)Z" } : Jvm.MethodName) prog_1_method_24_code (2 : Nat) (Option.some Jvm.ClassFile.FieldType.boolean)).before args0 about1 = true := code_word (m := ⟨2, 20⟩) (meth := k2m20) (c := k2c20) (by decide +kernel) rfl rfl rfl (by decide +kernel)
set_option maxRecDepth 65536 in
theorem w_c23 : (Jvm.Cond.code ({ cls := "ElevatorBank", name := "stepMoving", desc := "(I)V" } : Jvm.MethodName) prog_1_method_33_code (6 : Nat) (Option.none : Option Jvm.ClassFile.FieldType)).before args0 about1 = true := code_word (m := ⟨2, 29⟩) (meth := k2m29) (c := k2c29) (by decide +kernel) rfl rfl rfl (by decide +kernel)
set_option maxRecDepth 65536 in
theorem w_c24 : (Jvm.Cond.code ({ cls := "ElevatorBank", name := "stepOpen", desc := "(I)V" } : Jvm.MethodName) prog_1_method_34_code (5 : Nat) (Option.none : Option Jvm.ClassFile.FieldType)).before args0 about1 = true := code_word (m := ⟨2, 30⟩) (meth := k2m30) (c := k2c30) (by decide +kernel) rfl rfl rfl (by decide +kernel)
set_option maxRecDepth 65536 in
theorem w_c25 : (Jvm.Cond.code ({ cls := "ElevatorBank", name := "deliverAt", desc := "(I)Z" } : Jvm.MethodName) prog_1_method_35_code (5 : Nat) (Option.some Jvm.ClassFile.FieldType.boolean)).before args0 about1 = true := code_word (m := ⟨2, 31⟩) (meth := k2m31) (c := k2c31) (by decide +kernel) rfl rfl rfl (by decide +kernel)
set_option maxRecDepth 65536 in
theorem w_c26 : (Jvm.Cond.code ({ cls := "ElevatorBank", name := "boardAt", desc := "(II)Z" } : Jvm.MethodName) prog_1_method_36_code (6 : Nat) (Option.some Jvm.ClassFile.FieldType.boolean)).before args0 about1 = true := code_word (m := ⟨2, 32⟩) (meth := k2m32) (c := k2c32) (by decide +kernel) rfl rfl rfl (by decide +kernel)
set_option maxRecDepth 65536 in
theorem w_c27 : (Jvm.Cond.code ({ cls := "ElevatorBank", name := "stepClosing", desc := "(I)V" } : Jvm.MethodName) prog_1_method_37_code (3 : Nat) (Option.none : Option Jvm.ClassFile.FieldType)).before args0 about1 = true := code_word (m := ⟨2, 33⟩) (meth := k2m33) (c := k2c33) (by decide +kernel) rfl rfl rfl (by decide +kernel)
set_option maxRecDepth 65536 in
theorem w_c28 : (Jvm.Cond.code ({ cls := "ElevatorBank", name := "now", desc := "()I" } : Jvm.MethodName) prog_1_method_5_code (1 : Nat) (Option.some Jvm.ClassFile.FieldType.int)).before args0 about1 = true := code_word (m := ⟨2, 3⟩) (meth := k2m3) (c := k2c3) (by decide +kernel) rfl rfl rfl (by decide +kernel)
set_option maxRecDepth 65536 in
theorem w_c29 : (Jvm.Cond.code ({ cls := "ElevatorBank", name := "delivered", desc := "()I" } : Jvm.MethodName) prog_1_method_7_code (3 : Nat) (Option.some Jvm.ClassFile.FieldType.int)).before args0 about1 = true := code_word (m := ⟨2, 5⟩) (meth := k2m5) (c := k2c5) (by decide +kernel) rfl rfl rfl (by decide +kernel)
set_option maxRecDepth 65536 in
theorem w_c30 : (Jvm.Cond.code ({ cls := "ElevatorBank", name := "passenger", desc := "(II)I" } : Jvm.MethodName) prog_1_method_9_code (3 : Nat) (Option.some Jvm.ClassFile.FieldType.int)).before args0 about1 = true := code_word (m := ⟨2, 7⟩) (meth := k2m7) (c := k2c7) (by decide +kernel) rfl rfl rfl (by decide +kernel)
set_option maxRecDepth 65536 in
theorem w_c31 : (Jvm.Cond.code ({ cls := "ElevatorBank", name := "waitSum", desc := "()I" } : Jvm.MethodName) prog_1_method_12_code (3 : Nat) (Option.some Jvm.ClassFile.FieldType.int)).before args0 about1 = true := code_word (m := ⟨2, 8⟩) (meth := k2m8) (c := k2c8) (by decide +kernel) rfl rfl rfl (by decide +kernel)
set_option maxRecDepth 65536 in
theorem w_c32 : (Jvm.Cond.code ({ cls := "ElevatorBank", name := "journeySum", desc := "()I" } : Jvm.MethodName) prog_1_method_13_code (3 : Nat) (Option.some Jvm.ClassFile.FieldType.int)).before args0 about1 = true := code_word (m := ⟨2, 9⟩) (meth := k2m9) (c := k2c9) (by decide +kernel) rfl rfl rfl (by decide +kernel)
set_option maxRecDepth 65536 in
theorem w_c33 : (Jvm.Cond.code ({ cls := "ElevatorBank", name := "histogram", desc := "(II)I" } : Jvm.MethodName) prog_1_method_14_code (7 : Nat) (Option.some Jvm.ClassFile.FieldType.int)).before args0 about1 = true := code_word (m := ⟨2, 10⟩) (meth := k2m10) (c := k2c10) (by decide +kernel) rfl rfl rfl (by decide +kernel)
set_option maxRecDepth 65536 in
theorem w_c34 : (Jvm.Cond.code ({ cls := "ElevatorBank", name := "bucketOf", desc := "(I)I" } : Jvm.MethodName) prog_1_method_16_code (2 : Nat) (Option.some Jvm.ClassFile.FieldType.int)).before args0 about1 = true := code_word (m := ⟨2, 12⟩) (meth := k2m12) (c := k2c12) (by decide +kernel) rfl rfl rfl (by decide +kernel)
set_option maxRecDepth 65536 in
theorem w_c35 : (Jvm.Cond.code ({ cls := "ElevatorBank", name := "car", desc := "(II)I" } : Jvm.MethodName) prog_1_method_8_code (3 : Nat) (Option.some Jvm.ClassFile.FieldType.int)).before args0 about1 = true := code_word (m := ⟨2, 6⟩) (meth := k2m6) (c := k2c6) (by decide +kernel) rfl rfl rfl (by decide +kernel)
def codes1 : List Jvm.Cond := [Jvm.Cond.code x code maxLocals ret, Jvm.Cond.code ({ cls := "ElevatorBank", name := "<init>", desc := "(III)V" } : Jvm.MethodName) prog_1_method_1_code (5 : Nat) (Option.none : Option Jvm.ClassFile.FieldType), Jvm.Cond.code ({ cls := "java/lang/Object", name := "<init>", desc := "()V" } : Jvm.MethodName) object_method_1_code (1 : Nat) (Option.none : Option Jvm.ClassFile.FieldType), Jvm.Cond.code ({ cls := "ElevatorBank", name := "clamp", desc := "(III)I" } : Jvm.MethodName) prog_1_method_15_code (4 : Nat) (Option.some Jvm.ClassFile.FieldType.int), Jvm.Cond.code ({ cls := "ElevatorBank", name := "addPassenger", desc := "(III)I" } : Jvm.MethodName) prog_1_method_2_code (5 : Nat) (Option.some Jvm.ClassFile.FieldType.int), Jvm.Cond.code ({ cls := "ElevatorBank", name := "passengers", desc := "()I" } : Jvm.MethodName) prog_1_method_6_code (1 : Nat) (Option.some Jvm.ClassFile.FieldType.int), Jvm.Cond.code ({ cls := "ElevatorBank", name := "step", desc := "(I)I" } : Jvm.MethodName) prog_1_method_4_code (4 : Nat) (Option.some Jvm.ClassFile.FieldType.int), Jvm.Cond.code ({ cls := "ElevatorBank", name := "tick", desc := "()V" } : Jvm.MethodName) prog_1_method_26_code (2 : Nat) (Option.none : Option Jvm.ClassFile.FieldType), Jvm.Cond.code ({ cls := "ElevatorBank", name := "arrivals", desc := "()V" } : Jvm.MethodName) prog_1_method_27_code (2 : Nat) (Option.none : Option Jvm.ClassFile.FieldType), Jvm.Cond.code ({ cls := "ElevatorBank", name := "dispatch", desc := "()V" } : Jvm.MethodName) prog_1_method_28_code (4 : Nat) (Option.none : Option Jvm.ClassFile.FieldType), Jvm.Cond.code ({ cls := "ElevatorBank", name := "assignCall", desc := "(II)V" } : Jvm.MethodName) prog_1_method_29_code (8 : Nat) (Option.none : Option Jvm.ClassFile.FieldType), Jvm.Cond.code ({ cls := "ElevatorBank", name := "slotIndex", desc := "(II)I" } : Jvm.MethodName) prog_1_method_18_code (3 : Nat) (Option.some Jvm.ClassFile.FieldType.int), Jvm.Cond.code ({ cls := "ElevatorBank", name := "waitingDir", desc := "(II)Z" } : Jvm.MethodName) prog_1_method_19_code (4 : Nat) (Option.some Jvm.ClassFile.FieldType.boolean), Jvm.Cond.code ({ cls := "ElevatorBank", name := "direction", desc := "(I)I" } : Jvm.MethodName) prog_1_method_17_code (2 : Nat) (Option.some Jvm.ClassFile.FieldType.int), Jvm.Cond.code ({ cls := "ElevatorBank", name := "eta", desc := "(III)I" } : Jvm.MethodName) prog_1_method_30_code (10 : Nat) (Option.some Jvm.ClassFile.FieldType.int), Jvm.Cond.code ({ cls := "ElevatorBank", name := "runCar", desc := "(I)V" } : Jvm.MethodName) prog_1_method_31_code (3 : Nat) (Option.none : Option Jvm.ClassFile.FieldType), Jvm.Cond.code ({ cls := "ElevatorBank", name := "stepStopped", desc := "(I)V" } : Jvm.MethodName) prog_1_method_32_code (3 : Nat) (Option.none : Option Jvm.ClassFile.FieldType), Jvm.Cond.code ({ cls := "ElevatorBank", name := "choose", desc := "(I)I" } : Jvm.MethodName) prog_1_method_25_code (4 : Nat) (Option.some Jvm.ClassFile.FieldType.int), Jvm.Cond.code ({ cls := "ElevatorBank", name := "beyond", desc := "(II)Z" } : Jvm.MethodName) prog_1_method_23_code (6 : Nat) (Option.some Jvm.ClassFile.FieldType.boolean), Jvm.Cond.code ({ cls := "ElevatorBank", name := "isTarget", desc := "(II)Z" } : Jvm.MethodName) prog_1_method_22_code (3 : Nat) (Option.some Jvm.ClassFile.FieldType.boolean), Jvm.Cond.code ({ cls := "ElevatorBank", name := "ridingTo", desc := "(II)Z" } : Jvm.MethodName) prog_1_method_21_code (4 : Nat) (Option.some Jvm.ClassFile.FieldType.boolean), Jvm.Cond.code ({ cls := "ElevatorBank", name := "assigned", desc := "(III)Z" } : Jvm.MethodName) prog_1_method_20_code (4 : Nat) (Option.some Jvm.ClassFile.FieldType.boolean), Jvm.Cond.code ({ cls := "ElevatorBank", name := "room", desc := "(I)Z" } : Jvm.MethodName) prog_1_method_24_code (2 : Nat) (Option.some Jvm.ClassFile.FieldType.boolean), Jvm.Cond.code ({ cls := "ElevatorBank", name := "stepMoving", desc := "(I)V" } : Jvm.MethodName) prog_1_method_33_code (6 : Nat) (Option.none : Option Jvm.ClassFile.FieldType), Jvm.Cond.code ({ cls := "ElevatorBank", name := "stepOpen", desc := "(I)V" } : Jvm.MethodName) prog_1_method_34_code (5 : Nat) (Option.none : Option Jvm.ClassFile.FieldType), Jvm.Cond.code ({ cls := "ElevatorBank", name := "deliverAt", desc := "(I)Z" } : Jvm.MethodName) prog_1_method_35_code (5 : Nat) (Option.some Jvm.ClassFile.FieldType.boolean), Jvm.Cond.code ({ cls := "ElevatorBank", name := "boardAt", desc := "(II)Z" } : Jvm.MethodName) prog_1_method_36_code (6 : Nat) (Option.some Jvm.ClassFile.FieldType.boolean), Jvm.Cond.code ({ cls := "ElevatorBank", name := "stepClosing", desc := "(I)V" } : Jvm.MethodName) prog_1_method_37_code (3 : Nat) (Option.none : Option Jvm.ClassFile.FieldType), Jvm.Cond.code ({ cls := "ElevatorBank", name := "now", desc := "()I" } : Jvm.MethodName) prog_1_method_5_code (1 : Nat) (Option.some Jvm.ClassFile.FieldType.int), Jvm.Cond.code ({ cls := "ElevatorBank", name := "delivered", desc := "()I" } : Jvm.MethodName) prog_1_method_7_code (3 : Nat) (Option.some Jvm.ClassFile.FieldType.int), Jvm.Cond.code ({ cls := "ElevatorBank", name := "passenger", desc := "(II)I" } : Jvm.MethodName) prog_1_method_9_code (3 : Nat) (Option.some Jvm.ClassFile.FieldType.int), Jvm.Cond.code ({ cls := "ElevatorBank", name := "waitSum", desc := "()I" } : Jvm.MethodName) prog_1_method_12_code (3 : Nat) (Option.some Jvm.ClassFile.FieldType.int), Jvm.Cond.code ({ cls := "ElevatorBank", name := "journeySum", desc := "()I" } : Jvm.MethodName) prog_1_method_13_code (3 : Nat) (Option.some Jvm.ClassFile.FieldType.int), Jvm.Cond.code ({ cls := "ElevatorBank", name := "histogram", desc := "(II)I" } : Jvm.MethodName) prog_1_method_14_code (7 : Nat) (Option.some Jvm.ClassFile.FieldType.int), Jvm.Cond.code ({ cls := "ElevatorBank", name := "bucketOf", desc := "(I)I" } : Jvm.MethodName) prog_1_method_16_code (2 : Nat) (Option.some Jvm.ClassFile.FieldType.int), Jvm.Cond.code ({ cls := "ElevatorBank", name := "car", desc := "(II)I" } : Jvm.MethodName) prog_1_method_8_code (3 : Nat) (Option.some Jvm.ClassFile.FieldType.int)]
set_option maxRecDepth 65536 in
theorem codes_eq : words1.filter isCode = codes1 := rfl
theorem w_codes : ∀ c ∈ words1.filter isCode, c.before args0 about1 = true := by
  rw [codes_eq]
  intro c hc
  simp only [codes1, List.mem_cons, List.not_mem_nil, or_false] at hc
  rcases hc with rfl | rfl | rfl | rfl | rfl | rfl | rfl | rfl | rfl | rfl | rfl | rfl | rfl | rfl | rfl | rfl | rfl | rfl | rfl | rfl | rfl | rfl | rfl | rfl | rfl | rfl | rfl | rfl | rfl | rfl | rfl | rfl | rfl | rfl | rfl | rfl
  · exact w_c0
  · exact w_c1
  · exact w_c2
  · exact w_c3
  · exact w_c4
  · exact w_c5
  · exact w_c6
  · exact w_c7
  · exact w_c8
  · exact w_c9
  · exact w_c10
  · exact w_c11
  · exact w_c12
  · exact w_c13
  · exact w_c14
  · exact w_c15
  · exact w_c16
  · exact w_c17
  · exact w_c18
  · exact w_c19
  · exact w_c20
  · exact w_c21
  · exact w_c22
  · exact w_c23
  · exact w_c24
  · exact w_c25
  · exact w_c26
  · exact w_c27
  · exact w_c28
  · exact w_c29
  · exact w_c30
  · exact w_c31
  · exact w_c32
  · exact w_c33
  · exact w_c34
  · exact w_c35
set_option maxRecDepth 65536 in
theorem w_t1 : (words1.take 24).all (fun c => isCode c || c.before args0 about1) = true := by decide +kernel
set_option maxRecDepth 65536 in
theorem w_t2 : ((words1.drop 24).take 24).all (fun c => isCode c || c.before args0 about1) = true := by decide +kernel
set_option maxRecDepth 65536 in
theorem w_t3 : (((words1.drop 24).drop 24).take 24).all (fun c => isCode c || c.before args0 about1) = true := by decide +kernel
set_option maxRecDepth 65536 in
theorem w_t4 : ((((words1.drop 24).drop 24).drop 24).take 24).all (fun c => isCode c || c.before args0 about1) = true := by decide +kernel
set_option maxRecDepth 65536 in
theorem w_t5 : (((((words1.drop 24).drop 24).drop 24).drop 24).take 24).all (fun c => isCode c || c.before args0 about1) = true := by decide +kernel
set_option maxRecDepth 65536 in
theorem w_t6 : ((((((words1.drop 24).drop 24).drop 24).drop 24).drop 24).take 24).all (fun c => isCode c || c.before args0 about1) = true := by decide +kernel
set_option maxRecDepth 65536 in
theorem w_t7 : (((((((words1.drop 24).drop 24).drop 24).drop 24).drop 24).drop 24).take 24).all (fun c => isCode c || c.before args0 about1) = true := by decide +kernel
set_option maxRecDepth 65536 in
theorem w_t8 : (((((((words1.drop 24).drop 24).drop 24).drop 24).drop 24).drop 24).drop 24).all (fun c => isCode c || c.before args0 about1) = true := by decide +kernel
theorem w_tables : (allAtoms (Jvm.Cond.code x code maxLocals ret :: tables_1)).before args0 about1 = true := by
  rw [allAtoms_all]
  show words1.all (fun c => c.before args0 about1) = true
  refine all_split ?_ w_codes
  rw [← List.take_append_drop 24 words1, List.all_append, w_t1, ← List.take_append_drop 24 (words1.drop 24), List.all_append, w_t2, ← List.take_append_drop 24 ((words1.drop 24).drop 24), List.all_append, w_t3, ← List.take_append_drop 24 (((words1.drop 24).drop 24).drop 24), List.all_append, w_t4, ← List.take_append_drop 24 ((((words1.drop 24).drop 24).drop 24).drop 24), List.all_append, w_t5, ← List.take_append_drop 24 (((((words1.drop 24).drop 24).drop 24).drop 24).drop 24), List.all_append, w_t6, ← List.take_append_drop 24 ((((((words1.drop 24).drop 24).drop 24).drop 24).drop 24).drop 24), List.all_append, w_t7, w_t8]
  rfl
set_option maxRecDepth 65536 in
theorem w_case : (Jvm.Cond.and given_1 narrow_1).before args0 about1 = true := by decide +kernel
theorem w_applies : (headSpec (Jvm.Cond.code x code maxLocals ret :: tables_1) room_1).applies x e0.platform about1 = true :=
  (Spec.applies_iff w_frames).mpr ⟨w_running, w_runnable, w_alone, w_named, w_hears, w_ripe, w_room, w_tables⟩
theorem atStart : AtStart classFile x code maxLocals ret World_1 tables_1 room_1 Calls_1 rest_1 Pre_1 launch0 p0 e0 about1 theMethod args0 below0 :=
  ⟨lists_1, trivial, launch0.admits_env _ _ _, launch0.least_env, fairChoices_fair.cas, fairChoices_fair.clock, w_frames, w_args, w_heap, w_applies, trivial, trivial, w_case⟩
end start1
theorem witness_1 : WitnessClaimed_1 := ⟨start1.p0, start1.e0, start1.about1, start1.theMethod, start1.args0, start1.below0, start1.atStart⟩
end Jvm.Pilot.@@N@@
