import JvmDerived
import JvmDerived.Pilot.@@N@@Statement
import JvmDerived.Pilot.@@N@@Code
set_option linter.unusedVariables false
set_option linter.unusedSimpArgs false
set_option maxRecDepth 20000
namespace Jvm.JX
open Sem ClassFile Op Lib
abbrev Cel : Type := FieldType × Nat × Bool × (Nat → Value)
abbrev AH : Type := Nat × (Nat → Cel)
abbrev MInfo : Type := Nat × Nat × Nat × Option FieldType × Jvm.Room
abbrev Prog : Type := (Nat → Nat → Option (Instr × Nat × Int)) × (Nat → MInfo) × (Nat → FieldType) × Nat
abbrev Fm : Type := Nat × List Slot × List Value × Nat × Nat × AH
def na (P : Prog) (m : Nat) : Nat := (P.2.1 m).1
def ml (P : Prog) (m : Nat) : Nat := (P.2.1 m).2.1
def kd (P : Prog) (m : Nat) : Nat := (P.2.1 m).2.2.1
def rt (P : Prog) (m : Nat) : Option FieldType := (P.2.1 m).2.2.2.1
def rm (P : Prog) (m : Nat) : Jvm.Room := (P.2.1 m).2.2.2.2
def isO (H : AH) (a : Nat) : Bool := match (H.2 a).1 with | .object _ => true | _ => false
def isOw (H : AH) (a : Nat) : Bool := isO H a && (H.2 a).2.2.1
def inA (H : AH) (a : Nat) (t : FieldType) (i : Int32) : Bool := decide ((H.2 a).1 = .array t) && !decide (i < 0) && decide (i.toNatClampNeg < (H.2 a).2.1)
def inAw (H : AH) (a : Nat) (t : FieldType) (i : Int32) : Bool := inA H a t i && (H.2 a).2.2.1
def isA (H : AH) (a : Nat) : Bool := match (H.2 a).1 with | .array _ => true | _ => false
def elt (H : AH) (a : Nat) (i : Int32) : Value := (H.2 a).2.2.2 i.toNatClampNeg
def fld (H : AH) (a k : Nat) : Value := (H.2 a).2.2.2 k
def alen (H : AH) (a : Nat) : Nat := (H.2 a).2.1
def wr (H : AH) (a j : Nat) (v : Value) : AH := (H.1, fun b => if b = a then ((H.2 a).1, (H.2 a).2.1, (H.2 a).2.2.1, fun i => if i = j then v else (H.2 a).2.2.2 i) else H.2 b)
def okv : FieldType → Value → Bool
  | .int, .int _ => true
  | .boolean, .int z => z == 0 || z == 1
  | .byte, .int z => z.toInt8.toInt32 == z
  | .long, .long _ => true
  | .array _, .ref _ => true
  | _, _ => false
def mkO (P : Prog) (H : AH) : AH := (H.1 + 1, fun b => if b = H.1 then (.object "", P.2.2.2, true, fun k => defaultValue (P.2.2.1 k)) else H.2 b)
def mkA (t : FieldType) (n : Nat) (H : AH) : AH := (H.1 + 1, fun b => if b = H.1 then (.array t, n, true, fun _ => defaultValue t) else H.2 b)
def cat1 : Slot → Bool | .unset => true | .val v => v.category == 1 | .second => false
def cs (S : List Value) : Nat := (S.map fun v => v.category).sum
def stl (L : List Slot) (i : Nat) (v : Value) : Option (List Slot) :=
  match L[i]? with
  | some .unset => some (L.set i (.val v))
  | some (.val w) => if w.category = 1 then some (L.set i (.val v)) else if i + 1 < L.length then some ((L.set (i + 1) .unset).set i (.val v)) else none
  | some .second => if 1 ≤ i then some ((L.set (i - 1) .unset).set i (.val v)) else none
  | none => none
def lng : Slot → Bool | .val v => v.category == 2 | _ => false
def stL (L : List Slot) (i : Nat) (v : Value) : Option (List Slot) :=
  match L[i]?, L[i + 1]? with
  | some (.val w), some o2 => if w.category = 2 then some ((L.set i (.val v)).set (i + 1) .second) else if cat1 o2 = true then some ((L.set i (.val v)).set (i + 1) .second) else if lng o2 = true ∧ i + 2 < L.length then some (((L.set i (.val v)).set (i + 2) .unset).set (i + 1) .second) else none
  | some .unset, some o2 => if cat1 o2 = true then some ((L.set i (.val v)).set (i + 1) .second) else if lng o2 = true ∧ i + 2 < L.length then some (((L.set i (.val v)).set (i + 2) .unset).set (i + 1) .second) else none
  | some .second, some o2 => if 1 ≤ i then (if cat1 o2 = true then some (((L.set (i - 1) .unset).set i (.val v)).set (i + 1) .second) else if lng o2 = true ∧ i + 2 < L.length then some ((((L.set (i - 1) .unset).set i (.val v)).set (i + 2) .unset).set (i + 1) .second) else none) else none
  | _, _ => none
def ent (P : Prog) (m : Nat) (a : List Value) : List Slot := Sym.laidSlots a ++ List.replicate (ml P m - (Sym.laidSlots a).length) .unset
def ilen : Instr → Nat
  | .bipush _ | .iload _ | .istore _ | .aload _ | .astore _ | .lload _ | .lstore _ | .newarray _ | .ldc _ => 2
  | .sipush _ | .getfield _ | .putfield _ | .new _ | .invokevirtual _ | .invokestatic _ | .invokespecial _ | .ldc2_w _ | .goto _ | .ifCond _ _ | .if_icmp _ _ | .iinc _ _ => 3
  | _ => 1
def ldI (L : List Slot) (i : Nat) : Option Value := match L[i]? with | some (.val (.int x)) => some (.int x) | _ => none
def ldJ (L : List Slot) (i : Nat) : Option Value := match L[i]? with | some (.val (.long x)) => some (.long x) | _ => none
def ldR (L : List Slot) (i : Nat) : Option Value := match L[i]? with | some (.val (.ref x)) => some (.ref x) | _ => none
def jmp (pc : Nat) (o : Int) : Option Nat := if 0 ≤ (pc : Int) + o then some ((pc : Int) + o).toNat else none
def ret (P : Prog) (m : Nat) (ins : Instr) (S : List Value) : Option (Option Value) :=
  match ins with
  | .return_ => if rt P m = none ∧ S = [] then some none else none
  | .ireturn => match S, rt P m with
    | .int z :: _, some .int => some (some (.int z))
    | .int z :: _, some .boolean => if z = 0 ∨ z = 1 then some (some (.int z)) else none
    | _, _ => none
  | .lreturn => match S, rt P m with
    | .long z :: _, some .long => some (some (.long z))
    | _, _ => none
  | _ => none
def rcv (H : AH) : List Value → Bool | .ref a :: _ => isO H a | _ => false
def may (P : Prog) (m m' : Nat) (a r : List Value) (k n : Nat) (H : AH) : Bool :=
  decide ((Sym.laidSlots a).length ≤ ml P m') && decide (a.length = na P m') && decide ((rm P m').frames + 1 ≤ (rm P m).frames) && decide (cs r + (ml P m' + 11) + (rm P m').locals ≤ (rm P m).locals)
    && (decide ((rm P m').cells = 0 ∧ (rm P m').slots = 0) || decide (k + (rm P m').cells ≤ (rm P m).cells ∧ n + (rm P m').slots ≤ (rm P m).slots))
    && (decide (kd P m' = 0) || rcv H a)
def kindOk : Instr → Nat → Bool
  | .invokevirtual _, k => k == 1 || k == 2
  | .invokestatic _, k => k == 0
  | .invokespecial _, k => k == 3
  | _, _ => false
def cal1 (P : Prog) (m : Nat) (ins : Instr) (aux : Int) (S : List Value) (k n : Nat) (H : AH) : Option (Nat × List Value × List Value) :=
  if 0 ≤ aux ∧ kindOk ins (kd P aux.toNat) = true ∧ may P m aux.toNat (S.take (na P aux.toNat)).reverse (S.drop (na P aux.toNat)) k n H = true
  then some (aux.toNat, (S.take (na P aux.toNat)).reverse, S.drop (na P aux.toNat)) else none
def cal (P : Prog) (m : Nat) (ins : Instr) (aux : Int) (S : List Value) (k n : Nat) (H : AH) : Option (Nat × List Value × List Value) :=
  match ins with
  | .invokevirtual _ | .invokestatic _ | .invokespecial _ => cal1 P m ins aux S k n H
  | _ => none
def opI : Instr → Option (Int32 → Int32 → Int32)
  | .iadd => some fun x y => x + y
  | .isub => some fun x y => x - y
  | .imul => some fun x y => x * y
  | .iand => some fun x y => x &&& y
  | .ior => some fun x y => x ||| y
  | .ixor => some fun x y => x ^^^ y
  | .ishl => some fun x y => x <<< (y &&& 31)
  | .ishr => some fun x y => x >>> (y &&& 31)
  | .iushr => some Jvm.Free.XT.ushr
  | _ => none
def opJ : Instr → Option (Int64 → Int64 → Int64)
  | .ladd => some fun x y => x + y
  | .lsub => some fun x y => x - y
  | .lmul => some fun x y => x * y
  | .land => some fun x y => x &&& y
  | .lor => some fun x y => x ||| y
  | .lxor => some fun x y => x ^^^ y
  | _ => none
def opS : Instr → Option (Int64 → Int32 → Int64)
  | .lshl => some fun x y => x <<< (y.toInt64 &&& 63)
  | .lshr => some fun x y => x >>> (y.toInt64 &&& 63)
  | .lushr => some Jvm.Free.XT.ushrL
  | _ => none
def stp (P : Prog) (m : Nat) (ins : Instr) (len : Nat) (aux : Int) (pc : Nat) (L : List Slot) (S : List Value) (k n : Nat) (H : AH) : Option Fm :=
  match ins with
  | .iconst i => some (pc + len, L, .int (Int32.ofInt i) :: S, k, n, H)
  | .bipush i => some (pc + len, L, .int (Int8.ofInt i).toInt32 :: S, k, n, H)
  | .sipush i => some (pc + len, L, .int (Int16.ofInt i).toInt32 :: S, k, n, H)
  | .lconst i => some (pc + len, L, .long (Int64.ofNat i) :: S, k, n, H)
  | .ldc _ => some (pc + len, L, .int (Int32.ofInt aux) :: S, k, n, H)
  | .ldc2_w _ => some (pc + len, L, .long (Int64.ofInt aux) :: S, k, n, H)
  | .iload i => (ldI L i).map fun v => (pc + len, L, v :: S, k, n, H)
  | .iload_n i => (ldI L i.val).map fun v => (pc + len, L, v :: S, k, n, H)
  | .lload i => (ldJ L i).map fun v => (pc + len, L, v :: S, k, n, H)
  | .lload_n i => (ldJ L i.val).map fun v => (pc + len, L, v :: S, k, n, H)
  | .aload i => (ldR L i).map fun v => (pc + len, L, v :: S, k, n, H)
  | .aload_n i => (ldR L i.val).map fun v => (pc + len, L, v :: S, k, n, H)
  | .istore i => match S with | .int x :: S => (stl L i (.int x)).map fun L => (pc + len, L, S, k, n, H) | _ => none
  | .istore_n i => match S with | .int x :: S => (stl L i.val (.int x)).map fun L => (pc + len, L, S, k, n, H) | _ => none
  | .astore i => match S with | .ref x :: S => (stl L i (.ref x)).map fun L => (pc + len, L, S, k, n, H) | _ => none
  | .astore_n i => match S with | .ref x :: S => (stl L i.val (.ref x)).map fun L => (pc + len, L, S, k, n, H) | _ => none
  | .lstore i => match S with | .long x :: S => (stL L i (.long x)).map fun L => (pc + len, L, S, k, n, H) | _ => none
  | .lstore_n i => match S with | .long x :: S => (stL L i.val (.long x)).map fun L => (pc + len, L, S, k, n, H) | _ => none
  | .iinc i c => match L[i]? with | some (.val (.int x)) => some (pc + len, L.set i (.val (.int (x + Int32.ofInt c))), S, k, n, H) | _ => none
  | .iadd | .isub | .imul | .iand | .ior | .ixor | .ishl | .ishr | .iushr => match S with | .int y :: .int x :: S => (opI ins).map fun f => (pc + len, L, .int (f x y) :: S, k, n, H) | _ => none
  | .ladd | .lsub | .lmul | .land | .lor | .lxor => match S with | .long y :: .long x :: S => (opJ ins).map fun f => (pc + len, L, .long (f x y) :: S, k, n, H) | _ => none
  | .lshl | .lshr | .lushr => match S with | .int y :: .long x :: S => (opS ins).map fun f => (pc + len, L, .long (f x y) :: S, k, n, H) | _ => none
  | .idiv => match S with | .int y :: .int x :: S => if y = 0 then none else some (pc + len, L, .int (x / y) :: S, k, n, H) | _ => none
  | .irem => match S with | .int y :: .int x :: S => if y = 0 then none else some (pc + len, L, .int (x % y) :: S, k, n, H) | _ => none
  | .ldiv => match S with | .long y :: .long x :: S => if y = 0 then none else some (pc + len, L, .long (x / y) :: S, k, n, H) | _ => none
  | .lrem => match S with | .long y :: .long x :: S => if y = 0 then none else some (pc + len, L, .long (x % y) :: S, k, n, H) | _ => none
  | .ineg => match S with | .int x :: S => some (pc + len, L, .int (-x) :: S, k, n, H) | _ => none
  | .lneg => match S with | .long x :: S => some (pc + len, L, .long (-x) :: S, k, n, H) | _ => none
  | .i2l => match S with | .int x :: S => some (pc + len, L, .long x.toInt64 :: S, k, n, H) | _ => none
  | .l2i => match S with | .long x :: S => some (pc + len, L, .int x.toInt32 :: S, k, n, H) | _ => none
  | .i2b => match S with | .int x :: S => some (pc + len, L, .int x.toInt8.toInt32 :: S, k, n, H) | _ => none
  | .lcmp => match S with | .long y :: .long x :: S => some (pc + len, L, .int (Jvm.Free.XT.cmpL x y) :: S, k, n, H) | _ => none
  | .dup => match S with | v :: S => if v.category = 1 then some (pc + len, L, v :: v :: S, k, n, H) else none | _ => none
  | .dup2 => match S with
    | .long x :: S => some (pc + len, L, .long x :: .long x :: S, k, n, H)
    | v :: w :: S => if v.category = 1 ∧ w.category = 1 then some (pc + len, L, v :: w :: v :: w :: S, k, n, H) else none
    | _ => none
  | .pop => match S with | v :: S => if v.category = 1 then some (pc + len, L, S, k, n, H) else none | _ => none
  | .goto o => (jmp pc o).map fun q => (q, L, S, k, n, H)
  | .ifCond c o => match S with | .int x :: S => if ifCond.holds c x = true then (jmp pc o).map fun q => (q, L, S, k, n, H) else some (pc + len, L, S, k, n, H) | _ => none
  | .if_icmp c o => match S with | .int y :: .int x :: S => if if_icmp.holds c x y = true then (jmp pc o).map fun q => (q, L, S, k, n, H) else some (pc + len, L, S, k, n, H) | _ => none
  | .tableswitch d lo hi os => match S with
    | .int x :: S => if x.toInt < lo ∨ x.toInt > hi then (jmp pc d).map fun q => (q, L, S, k, n, H) else (os[(x.toInt - lo).toNat]?).bind fun o => (jmp pc o).map fun q => (q, L, S, k, n, H)
    | _ => none
  | .getfield _ => match S with | .ref a :: S => if isO H a = true then some (pc + len, L, fld H a aux.toNat :: S, k, n, H) else none | _ => none
  | .putfield _ => match S with | v :: .ref a :: S => if isOw H a = true ∧ okv (P.2.2.1 aux.toNat) v = true then some (pc + len, L, S, k, n, wr H a aux.toNat v) else none | _ => none
  | .iaload => match S with | .int i :: .ref a :: S => if inA H a .int i = true then some (pc + len, L, elt H a i :: S, k, n, H) else none | _ => none
  | .laload => match S with | .int i :: .ref a :: S => if inA H a .long i = true then some (pc + len, L, elt H a i :: S, k, n, H) else none | _ => none
  | .baload => match S with | .int i :: .ref a :: S => if inA H a .byte i = true ∨ inA H a .boolean i = true then some (pc + len, L, elt H a i :: S, k, n, H) else none | _ => none
  | .iastore => match S with | .int x :: .int i :: .ref a :: S => if inAw H a .int i = true then some (pc + len, L, S, k, n, wr H a i.toNatClampNeg (.int x)) else none | _ => none
  | .lastore => match S with | .long x :: .int i :: .ref a :: S => if inAw H a .long i = true then some (pc + len, L, S, k, n, wr H a i.toNatClampNeg (.long x)) else none | _ => none
  | .bastore => match S with
    | .int x :: .int i :: .ref a :: S => if (inAw H a .byte i = true ∧ okv .byte (.int x) = true) ∨ (inAw H a .boolean i = true ∧ okv .boolean (.int x) = true) then some (pc + len, L, S, k, n, wr H a i.toNatClampNeg (.int x)) else none
    | _ => none
  | .arraylength => match S with | .ref a :: S => if isA H a = true then some (pc + len, L, .int (alen H a).toInt32 :: S, k, n, H) else none | _ => none
  | .newarray t => match S with | .int c :: S => if ¬ c < 0 ∧ c.toNatClampNeg * 8 ≤ 536870912 ∧ k + 1 ≤ (rm P m).cells ∧ n + c.toNatClampNeg ≤ (rm P m).slots then some (pc + len, L, .ref H.1 :: S, k + 1, n + c.toNatClampNeg, mkA (newarray.typeOf t) c.toNatClampNeg H) else none | _ => none
  | .new _ => if 0 ≤ aux ∧ k + 1 ≤ (rm P m).cells ∧ n + aux.toNat ≤ (rm P m).slots then some (pc + len, L, .ref H.1 :: S, k + 1, n + aux.toNat, mkO P H) else none
  | .invokespecial _ => match S with | .ref a :: S => if aux = -1 ∧ 1 ≤ (rm P m).frames ∧ cs S + 12 ≤ (rm P m).locals then some (pc + len, L, S, k, n, H) else none | _ => none
  | _ => none
def run (P : Prog) : Nat → Nat → Nat → List Slot → List Value → Nat → Nat → AH → Option (Option Value × AH)
  | 0, _, _, _, _, _, _, _ => none
  | f + 1, m, pc, L, S, k, n, H =>
    match P.1 m pc with
    | none => none
    | some d =>
      match ret P m d.1 S with
      | some v => some (v, H)
      | none => match cal P m d.1 d.2.2 S k n H with
        | some c => match run P f c.1 0 (ent P c.1 c.2.1) [] 0 0 H with
          | none => none
          | some r => run P f m (pc + d.2.1) L (r.1.toList ++ c.2.2) (k + (rm P c.1).cells) (n + (rm P c.1).slots) r.2
        | none => match stp P m d.1 d.2.1 d.2.2 pc L S k n H with
          | none => none
          | some q => run P f m q.1 q.2.1 q.2.2.1 q.2.2.2.1 q.2.2.2.2.1 q.2.2.2.2.2
end Jvm.JX

namespace Jvm.JX
open Sem ClassFile Op Lib
section
variable {P : Prog}
theorem run_succ (f m pc : Nat) (L : List Slot) (S : List Value) (k n : Nat) (H : AH) : run P (f + 1) m pc L S k n H =
    match P.1 m pc with
    | none => none
    | some d =>
      match ret P m d.1 S with
      | some v => some (v, H)
      | none => match cal P m d.1 d.2.2 S k n H with
        | some c => match run P f c.1 0 (ent P c.1 c.2.1) [] 0 0 H with
          | none => none
          | some r => run P f m (pc + d.2.1) L (r.1.toList ++ c.2.2) (k + (rm P c.1).cells) (n + (rm P c.1).slots) r.2
        | none => match stp P m d.1 d.2.1 d.2.2 pc L S k n H with
          | none => none
          | some q => run P f m q.1 q.2.1 q.2.2.1 q.2.2.2.1 q.2.2.2.2.1 q.2.2.2.2.2 := rfl
theorem run_mono : ∀ (f m pc : Nat) (L : List Slot) (S : List Value) (k n : Nat) (H : AH) (r : Option Value × AH), run P f m pc L S k n H = some r → run P (f + 1) m pc L S k n H = some r := by
  intro f
  induction f with
  | zero => intro m pc L S k n H r h; cases h
  | succ f ih =>
    intro m pc L S k n H r h
    rw [run_succ] at h ⊢
    cases hd : P.1 m pc with
    | none => rw [hd] at h; cases h
    | some d =>
      rw [hd] at h
      simp only at h ⊢
      cases hr : ret P m d.1 S with
      | some v => rw [hr] at h; exact h
      | none =>
        rw [hr] at h
        simp only at h ⊢
        cases hc : cal P m d.1 d.2.2 S k n H with
        | some c =>
          rw [hc] at h
          simp only at h ⊢
          cases hq : run P f c.1 0 (ent P c.1 c.2.1) [] 0 0 H with
          | none => rw [hq] at h; cases h
          | some q =>
            rw [hq] at h
            rw [ih _ _ _ _ _ _ _ _ hq]
            exact ih _ _ _ _ _ _ _ _ h
        | none =>
          rw [hc] at h
          simp only at h ⊢
          cases hs : stp P m d.1 d.2.1 d.2.2 pc L S k n H with
          | none => rw [hs] at h; cases h
          | some q => rw [hs] at h; exact ih _ _ _ _ _ _ _ _ h
theorem run_le {f g : Nat} (hfg : f ≤ g) {m pc : Nat} {L : List Slot} {S : List Value} {k n : Nat} {H : AH} {r : Option Value × AH} (h : run P f m pc L S k n H = some r) : run P g m pc L S k n H = some r := by
  induction hfg with
  | refl => exact h
  | step _ ih => exact run_mono _ _ _ _ _ _ _ _ _ ih
end
def W (P : Prog) (m pc : Nat) (L : List Slot) (S : List Value) (k n : Nat) (H : AH) (Q : Option Value → AH → Prop) : Prop := ∃ f v H', run P f m pc L S k n H = some (v, H') ∧ Q v H'
def Cl (P : Prog) (m : Nat) (a : List Value) (H : AH) (Q : Option Value → AH → Prop) : Prop := W P m 0 (ent P m a) [] 0 0 H Q
section Rules
variable {P : Prog} {m pc : Nat} {L : List Slot} {S : List Value} {k n : Nat} {H : AH} {Q : Option Value → AH → Prop} {ins : Instr} {len : Nat} {aux : Int}
theorem W_mono {Q' : Option Value → AH → Prop} (h : W P m pc L S k n H Q) (hq : ∀ v H', Q v H' → Q' v H') : W P m pc L S k n H Q' := by
  obtain ⟨f, v, H', h1, h2⟩ := h
  exact ⟨f, v, H', h1, hq _ _ h2⟩
theorem W_r {v : Option Value} (hd : P.1 m pc = some (ins, len, aux)) (hr : ret P m ins S = some v) : W P m pc L S k n H Q ↔ Q v H := by
  constructor
  · rintro ⟨f, v', H', h1, h2⟩
    cases f with
    | zero => cases h1
    | succ f => rw [run_succ, hd] at h1; simp only [hr] at h1; cases h1; exact h2
  · intro h
    refine ⟨1, v, H, ?_, h⟩
    rw [run_succ, hd]; simp only [hr]
theorem W_c {m' : Nat} {a r : List Value} (hd : P.1 m pc = some (ins, len, aux)) (hr : ret P m ins S = none) (hc : cal P m ins aux S k n H = some (m', a, r)) :
    W P m pc L S k n H Q ↔ Cl P m' a H (fun v H' => W P m (pc + len) L (v.toList ++ r) (k + (rm P m').cells) (n + (rm P m').slots) H' Q) := by
  constructor
  · rintro ⟨f, v', H', h1, h2⟩
    cases f with
    | zero => cases h1
    | succ f =>
      rw [run_succ, hd] at h1; simp only [hr, hc] at h1
      cases hq : run P f m' 0 (ent P m' a) [] 0 0 H with
      | none => rw [hq] at h1; cases h1
      | some q => rw [hq] at h1; exact ⟨f, q.1, q.2, hq, f, v', H', h1, h2⟩
  · rintro ⟨f, v, H', h1, g, v', H'', h2, h3⟩
    refine ⟨max f g + 1, v', H'', ?_, h3⟩
    rw [run_succ, hd]; simp only [hr, hc]
    rw [run_le (Nat.le_max_left f g) h1]
    exact run_le (Nat.le_max_right f g) h2
theorem W_q (hd : P.1 m pc = some (ins, len, aux)) (hr : ret P m ins S = none) (hc : cal P m ins aux S k n H = none) :
    W P m pc L S k n H Q ↔ ∃ q, stp P m ins len aux pc L S k n H = some q ∧ W P m q.1 q.2.1 q.2.2.1 q.2.2.2.1 q.2.2.2.2.1 q.2.2.2.2.2 Q := by
  constructor
  · rintro ⟨f, v', H', h1, h2⟩
    cases f with
    | zero => cases h1
    | succ f =>
      rw [run_succ, hd] at h1; simp only [hr, hc] at h1
      cases hq : stp P m ins len aux pc L S k n H with
      | none => rw [hq] at h1; cases h1
      | some q => rw [hq] at h1; exact ⟨q, rfl, f, v', H', h1, h2⟩
  · rintro ⟨q, hq, f, v', H', h1, h2⟩
    refine ⟨f + 1, v', H', ?_, h2⟩
    rw [run_succ, hd]; simp only [hr, hc, hq]; exact h1
theorem W_s {pc' : Nat} {L' : List Slot} {S' : List Value} {k' n' : Nat} {H' : AH} (hd : P.1 m pc = some (ins, len, aux)) (hr : ret P m ins S = none) (hc : cal P m ins aux S k n H = none)
    (hs : stp P m ins len aux pc L S k n H = some (pc', L', S', k', n', H')) : W P m pc L S k n H Q ↔ W P m pc' L' S' k' n' H' Q := by
  rw [W_q hd hr hc, hs]
  exact ⟨fun ⟨q, e, h⟩ => by cases e; exact h, fun h => ⟨_, rfl, h⟩⟩
theorem W_g {G : Prop} [Decidable G] {pc' : Nat} {L' : List Slot} {S' : List Value} {k' n' : Nat} {H' : AH} (hd : P.1 m pc = some (ins, len, aux)) (hr : ret P m ins S = none) (hc : cal P m ins aux S k n H = none)
    (hs : stp P m ins len aux pc L S k n H = if G then some (pc', L', S', k', n', H') else none) : W P m pc L S k n H Q ↔ (G ∧ W P m pc' L' S' k' n' H' Q) := by
  rw [W_q hd hr hc, hs]
  by_cases g : G
  · rw [if_pos g]; exact ⟨fun ⟨q, e, h⟩ => by cases e; exact ⟨g, h⟩, fun h => ⟨_, rfl, h.2⟩⟩
  · rw [if_neg g]; exact ⟨fun ⟨q, e, h⟩ => (by cases e), fun h => absurd h.1 g⟩
theorem W_n {G : Prop} [Decidable G] {pc' : Nat} {L' : List Slot} {S' : List Value} {k' n' : Nat} {H' : AH} (hd : P.1 m pc = some (ins, len, aux)) (hr : ret P m ins S = none) (hc : cal P m ins aux S k n H = none)
    (hs : stp P m ins len aux pc L S k n H = if G then none else some (pc', L', S', k', n', H')) : W P m pc L S k n H Q ↔ (¬ G ∧ W P m pc' L' S' k' n' H' Q) := by
  rw [W_q hd hr hc, hs]
  by_cases g : G
  · rw [if_pos g]; exact ⟨fun ⟨q, e, h⟩ => (by cases e), fun h => absurd g h.1⟩
  · rw [if_neg g]; exact ⟨fun ⟨q, e, h⟩ => by cases e; exact ⟨g, h⟩, fun h => ⟨_, rfl, h.2⟩⟩
theorem W_f {G : Prop} [Decidable G] {q1 q2 : Fm} (hd : P.1 m pc = some (ins, len, aux)) (hr : ret P m ins S = none) (hc : cal P m ins aux S k n H = none)
    (hs : stp P m ins len aux pc L S k n H = if G then some q1 else some q2) : W P m pc L S k n H Q ↔ (if G then W P m q1.1 q1.2.1 q1.2.2.1 q1.2.2.2.1 q1.2.2.2.2.1 q1.2.2.2.2.2 Q else W P m q2.1 q2.2.1 q2.2.2.1 q2.2.2.2.1 q2.2.2.2.2.1 q2.2.2.2.2.2 Q) := by
  rw [W_q hd hr hc, hs]
  by_cases g : G
  · rw [if_pos g, if_pos g]; exact ⟨fun ⟨q, e, h⟩ => by cases e; exact h, fun h => ⟨_, rfl, h⟩⟩
  · rw [if_neg g, if_neg g]; exact ⟨fun ⟨q, e, h⟩ => by cases e; exact h, fun h => ⟨_, rfl, h⟩⟩
section Cmp
variable {x y : Int32} {o : Int} {q : Nat}
theorem W_icmp_eq (hd : P.1 m pc = some (.if_icmp .eq o, len, aux)) (hj : jmp pc o = some q) : W P m pc L (.int y :: .int x :: S) k n H Q ↔ (if x = y then W P m q L S k n H Q else W P m (pc + len) L S k n H Q) :=
  W_f (G := x = y) (q1 := (q, L, S, k, n, H)) (q2 := (pc + len, L, S, k, n, H)) hd rfl rfl (by simp only [stp, hj, if_icmp.holds]; by_cases h : x = y <;> simp [h])
theorem W_icmp_ne (hd : P.1 m pc = some (.if_icmp .ne o, len, aux)) (hj : jmp pc o = some q) : W P m pc L (.int y :: .int x :: S) k n H Q ↔ (if x = y then W P m (pc + len) L S k n H Q else W P m q L S k n H Q) :=
  W_f (G := x = y) (q1 := (pc + len, L, S, k, n, H)) (q2 := (q, L, S, k, n, H)) hd rfl rfl (by simp only [stp, hj, if_icmp.holds]; by_cases h : x = y <;> simp [h])
theorem W_icmp_lt (hd : P.1 m pc = some (.if_icmp .lt o, len, aux)) (hj : jmp pc o = some q) : W P m pc L (.int y :: .int x :: S) k n H Q ↔ (if x < y then W P m q L S k n H Q else W P m (pc + len) L S k n H Q) :=
  W_f (G := x < y) (q1 := (q, L, S, k, n, H)) (q2 := (pc + len, L, S, k, n, H)) hd rfl rfl (by
    by_cases h : x < y
    · simp [stp, hj, Jvm.Free.XT.ii_lt_t h, h]
    · simp [stp, hj, Jvm.Free.XT.ii_lt_f h, h])
theorem W_icmp_ge (hd : P.1 m pc = some (.if_icmp .ge o, len, aux)) (hj : jmp pc o = some q) : W P m pc L (.int y :: .int x :: S) k n H Q ↔ (if x < y then W P m (pc + len) L S k n H Q else W P m q L S k n H Q) :=
  W_f (G := x < y) (q1 := (pc + len, L, S, k, n, H)) (q2 := (q, L, S, k, n, H)) hd rfl rfl (by
    by_cases h : x < y
    · simp [stp, hj, Jvm.Free.XT.ii_ge_f h, h]
    · simp [stp, hj, Jvm.Free.XT.ii_ge_t h, h])
theorem W_icmp_gt (hd : P.1 m pc = some (.if_icmp .gt o, len, aux)) (hj : jmp pc o = some q) : W P m pc L (.int y :: .int x :: S) k n H Q ↔ (if y < x then W P m q L S k n H Q else W P m (pc + len) L S k n H Q) :=
  W_f (G := y < x) (q1 := (q, L, S, k, n, H)) (q2 := (pc + len, L, S, k, n, H)) hd rfl rfl (by
    by_cases h : y < x
    · simp [stp, hj, Jvm.Free.XT.ii_gt_t h, h]
    · simp [stp, hj, Jvm.Free.XT.ii_gt_f h, h])
theorem W_icmp_le (hd : P.1 m pc = some (.if_icmp .le o, len, aux)) (hj : jmp pc o = some q) : W P m pc L (.int y :: .int x :: S) k n H Q ↔ (if y < x then W P m (pc + len) L S k n H Q else W P m q L S k n H Q) :=
  W_f (G := y < x) (q1 := (pc + len, L, S, k, n, H)) (q2 := (q, L, S, k, n, H)) hd rfl rfl (by
    by_cases h : y < x
    · simp [stp, hj, Jvm.Free.XT.ii_le_f h, h]
    · simp [stp, hj, Jvm.Free.XT.ii_le_t h, h])
theorem W_if_eq (hd : P.1 m pc = some (.ifCond .eq o, len, aux)) (hj : jmp pc o = some q) : W P m pc L (.int x :: S) k n H Q ↔ (if x = 0 then W P m q L S k n H Q else W P m (pc + len) L S k n H Q) :=
  W_f (G := x = 0) (q1 := (q, L, S, k, n, H)) (q2 := (pc + len, L, S, k, n, H)) hd rfl rfl (by
    by_cases h : x = 0
    · have e := Jvm.Free.XT.i0_eq_t h; simp only [stp, hj, e, if_pos h, if_true, Option.map_some]
    · simp [stp, hj, Jvm.Free.XT.i0_eq_f h, h])
theorem W_if_ne (hd : P.1 m pc = some (.ifCond .ne o, len, aux)) (hj : jmp pc o = some q) : W P m pc L (.int x :: S) k n H Q ↔ (if x = 0 then W P m (pc + len) L S k n H Q else W P m q L S k n H Q) :=
  W_f (G := x = 0) (q1 := (pc + len, L, S, k, n, H)) (q2 := (q, L, S, k, n, H)) hd rfl rfl (by
    by_cases h : x = 0
    · have e := Jvm.Free.XT.i0_ne_f h; simp only [stp, hj, e, if_pos h, Bool.false_eq_true, if_false]
    · simp [stp, hj, Jvm.Free.XT.i0_ne_t h, h])
theorem W_if_lt (hd : P.1 m pc = some (.ifCond .lt o, len, aux)) (hj : jmp pc o = some q) : W P m pc L (.int x :: S) k n H Q ↔ (if x < 0 then W P m q L S k n H Q else W P m (pc + len) L S k n H Q) :=
  W_f (G := x < 0) (q1 := (q, L, S, k, n, H)) (q2 := (pc + len, L, S, k, n, H)) hd rfl rfl (by
    by_cases h : x < 0
    · simp [stp, hj, Jvm.Free.XT.i0_lt_t h, h]
    · simp [stp, hj, Jvm.Free.XT.i0_lt_f h, h])
theorem W_if_ge (hd : P.1 m pc = some (.ifCond .ge o, len, aux)) (hj : jmp pc o = some q) : W P m pc L (.int x :: S) k n H Q ↔ (if x < 0 then W P m (pc + len) L S k n H Q else W P m q L S k n H Q) :=
  W_f (G := x < 0) (q1 := (pc + len, L, S, k, n, H)) (q2 := (q, L, S, k, n, H)) hd rfl rfl (by
    by_cases h : x < 0
    · simp [stp, hj, Jvm.Free.XT.i0_ge_f h, h]
    · simp [stp, hj, Jvm.Free.XT.i0_ge_t h, h])
theorem W_if_gt (hd : P.1 m pc = some (.ifCond .gt o, len, aux)) (hj : jmp pc o = some q) : W P m pc L (.int x :: S) k n H Q ↔ (if 0 < x then W P m q L S k n H Q else W P m (pc + len) L S k n H Q) :=
  W_f (G := 0 < x) (q1 := (q, L, S, k, n, H)) (q2 := (pc + len, L, S, k, n, H)) hd rfl rfl (by
    by_cases h : 0 < x
    · simp [stp, hj, Jvm.Free.XT.i0_gt_t h, h]
    · simp [stp, hj, Jvm.Free.XT.i0_gt_f h, h])
theorem W_if_le (hd : P.1 m pc = some (.ifCond .le o, len, aux)) (hj : jmp pc o = some q) : W P m pc L (.int x :: S) k n H Q ↔ (if 0 < x then W P m (pc + len) L S k n H Q else W P m q L S k n H Q) :=
  W_f (G := 0 < x) (q1 := (pc + len, L, S, k, n, H)) (q2 := (q, L, S, k, n, H)) hd rfl rfl (by
    by_cases h : 0 < x
    · simp [stp, hj, Jvm.Free.XT.i0_le_f h, h]
    · simp [stp, hj, Jvm.Free.XT.i0_le_t h, h])
theorem W_goto (hd : P.1 m pc = some (.goto o, len, aux)) (hj : jmp pc o = some q) : W P m pc L S k n H Q ↔ W P m q L S k n H Q := W_s hd rfl rfl (by simp [stp, hj])
end Cmp
section Sto
variable {i : Nat} {o o2 : Slot} {x y : Int32} {v : Value} {l : Int64} {a : Nat}
theorem stl_plain (h : L[i]? = some o) (ho : cat1 o = true) : stl L i v = some (L.set i (.val v)) := by
  unfold stl
  rw [h]
  cases o with
  | unset => rfl
  | second => cases ho
  | val w => simp only [cat1, beq_iff_eq] at ho; simp [ho]
theorem stL_plain (h : L[i]? = some o) (h2 : L[i + 1]? = some o2) (ho : cat1 o = true) (ho2 : cat1 o2 = true) : stL L i v = some ((L.set i (.val v)).set (i + 1) .second) := by
  unfold stL
  rw [h, h2]
  cases o with
  | unset => simp [ho2]
  | second => cases ho
  | val w => simp only [cat1, beq_iff_eq] at ho; simp [ho, ho2]
theorem stL_again (h : L[i]? = some (.val (.long l))) (h2 : L[i + 1]? = some o2) : stL L i v = some ((L.set i (.val v)).set (i + 1) .second) := by
  unfold stL
  rw [h, h2]; simp [Value.category]
theorem W_ist (hd : P.1 m pc = some (.istore i, len, aux)) (h : L[i]? = some o) (ho : cat1 o = true) : W P m pc L (.int x :: S) k n H Q ↔ W P m (pc + len) (L.set i (.val (.int x))) S k n H Q := W_s hd rfl rfl (by simp [stp, stl_plain h ho])
theorem W_istn {i : Fin 4} (hd : P.1 m pc = some (.istore_n i, len, aux)) (h : L[i.val]? = some o) (ho : cat1 o = true) : W P m pc L (.int x :: S) k n H Q ↔ W P m (pc + len) (L.set i.val (.val (.int x))) S k n H Q := W_s hd rfl rfl (by simp [stp, stl_plain h ho])
theorem W_ast (hd : P.1 m pc = some (.astore i, len, aux)) (h : L[i]? = some o) (ho : cat1 o = true) : W P m pc L (.ref a :: S) k n H Q ↔ W P m (pc + len) (L.set i (.val (.ref a))) S k n H Q := W_s hd rfl rfl (by simp [stp, stl_plain h ho])
theorem W_astn {i : Fin 4} (hd : P.1 m pc = some (.astore_n i, len, aux)) (h : L[i.val]? = some o) (ho : cat1 o = true) : W P m pc L (.ref a :: S) k n H Q ↔ W P m (pc + len) (L.set i.val (.val (.ref a))) S k n H Q := W_s hd rfl rfl (by simp [stp, stl_plain h ho])
theorem W_lst (hd : P.1 m pc = some (.lstore i, len, aux)) (h : L[i]? = some o) (h2 : L[i + 1]? = some o2) (ho : cat1 o = true) (ho2 : cat1 o2 = true) : W P m pc L (.long l :: S) k n H Q ↔ W P m (pc + len) ((L.set i (.val (.long l))).set (i + 1) .second) S k n H Q := W_s hd rfl rfl (by simp [stp, stL_plain h h2 ho ho2])
theorem W_lstn {i : Fin 4} (hd : P.1 m pc = some (.lstore_n i, len, aux)) (h : L[i.val]? = some o) (h2 : L[i.val + 1]? = some o2) (ho : cat1 o = true) (ho2 : cat1 o2 = true) : W P m pc L (.long l :: S) k n H Q ↔ W P m (pc + len) ((L.set i.val (.val (.long l))).set (i.val + 1) .second) S k n H Q := W_s hd rfl rfl (by simp [stp, stL_plain h h2 ho ho2])
theorem W_lst' {l' : Int64} (hd : P.1 m pc = some (.lstore i, len, aux)) (h : L[i]? = some (.val (.long l'))) (h2 : L[i + 1]? = some o2) : W P m pc L (.long l :: S) k n H Q ↔ W P m (pc + len) ((L.set i (.val (.long l))).set (i + 1) .second) S k n H Q := W_s hd rfl rfl (by simp [stp, stL_again h h2])
theorem W_lstn' {l' : Int64} {i : Fin 4} (hd : P.1 m pc = some (.lstore_n i, len, aux)) (h : L[i.val]? = some (.val (.long l'))) (h2 : L[i.val + 1]? = some o2) : W P m pc L (.long l :: S) k n H Q ↔ W P m (pc + len) ((L.set i.val (.val (.long l))).set (i.val + 1) .second) S k n H Q := W_s hd rfl rfl (by simp [stp, stL_again h h2])
theorem st_long {S' : List Value} (h : L[i]? = some (.val (.long l))) (h2 : L[i + 1]? = some .second) : ((stl L i v).map fun L => (pc, L, S', k, n, H)) = some (pc, (L.set (i + 1) .unset).set i (.val v), S', k, n, H) := by
  have := (List.getElem?_eq_some_iff.mp h2).1
  simp [stl, h, Value.category, this]
theorem cat1_unset : cat1 .unset = true := rfl
theorem cat1_int : cat1 (.val (.int x)) = true := rfl
theorem cat1_ref : cat1 (.val (.ref a)) = true := rfl
theorem cs_nil : cs [] = 0 := by simp [cs]
theorem cs_int : cs (.int x :: S) = 1 + cs S := by simp [cs, Value.category]
theorem cs_ref : cs (.ref a :: S) = 1 + cs S := by simp [cs, Value.category]
theorem cs_long : cs (.long l :: S) = 2 + cs S := by simp [cs, Value.category]
end Sto
section Heap
variable {a j : Nat} {i x c : Int32} {v : Value} {l : Int64}
theorem W_getf {ix : Nat} (hd : P.1 m pc = some (.getfield ix, len, aux)) : W P m pc L (.ref a :: S) k n H Q ↔ (isO H a = true ∧ W P m (pc + len) L (fld H a aux.toNat :: S) k n H Q) := W_g hd rfl rfl rfl
theorem W_putf {ix : Nat} (hd : P.1 m pc = some (.putfield ix, len, aux)) : W P m pc L (v :: .ref a :: S) k n H Q ↔ ((isOw H a = true ∧ okv (P.2.2.1 aux.toNat) v = true) ∧ W P m (pc + len) L S k n (wr H a aux.toNat v) Q) := W_g hd rfl rfl rfl
theorem W_iaload (hd : P.1 m pc = some (.iaload, len, aux)) : W P m pc L (.int i :: .ref a :: S) k n H Q ↔ (inA H a .int i = true ∧ W P m (pc + len) L (elt H a i :: S) k n H Q) := W_g hd rfl rfl rfl
theorem W_laload (hd : P.1 m pc = some (.laload, len, aux)) : W P m pc L (.int i :: .ref a :: S) k n H Q ↔ (inA H a .long i = true ∧ W P m (pc + len) L (elt H a i :: S) k n H Q) := W_g hd rfl rfl rfl
theorem W_baload (hd : P.1 m pc = some (.baload, len, aux)) : W P m pc L (.int i :: .ref a :: S) k n H Q ↔ ((inA H a .byte i = true ∨ inA H a .boolean i = true) ∧ W P m (pc + len) L (elt H a i :: S) k n H Q) := W_g hd rfl rfl rfl
theorem W_iastore (hd : P.1 m pc = some (.iastore, len, aux)) : W P m pc L (.int x :: .int i :: .ref a :: S) k n H Q ↔ (inAw H a .int i = true ∧ W P m (pc + len) L S k n (wr H a i.toNatClampNeg (.int x)) Q) := W_g hd rfl rfl rfl
theorem W_lastore (hd : P.1 m pc = some (.lastore, len, aux)) : W P m pc L (.long l :: .int i :: .ref a :: S) k n H Q ↔ (inAw H a .long i = true ∧ W P m (pc + len) L S k n (wr H a i.toNatClampNeg (.long l)) Q) := W_g hd rfl rfl rfl
theorem W_bastore (hd : P.1 m pc = some (.bastore, len, aux)) : W P m pc L (.int x :: .int i :: .ref a :: S) k n H Q ↔ (((inAw H a .byte i = true ∧ okv .byte (.int x) = true) ∨ (inAw H a .boolean i = true ∧ okv .boolean (.int x) = true)) ∧ W P m (pc + len) L S k n (wr H a i.toNatClampNeg (.int x)) Q) := W_g hd rfl rfl rfl
theorem W_alen (hd : P.1 m pc = some (.arraylength, len, aux)) : W P m pc L (.ref a :: S) k n H Q ↔ (isA H a = true ∧ W P m (pc + len) L (.int (alen H a).toInt32 :: S) k n H Q) := W_g hd rfl rfl rfl
theorem W_newarr {t : ArrayType} (hd : P.1 m pc = some (.newarray t, len, aux)) : W P m pc L (.int c :: S) k n H Q ↔ ((¬ c < 0 ∧ c.toNatClampNeg * 8 ≤ 536870912 ∧ k + 1 ≤ (rm P m).cells ∧ n + c.toNatClampNeg ≤ (rm P m).slots) ∧ W P m (pc + len) L (.ref H.1 :: S) (k + 1) (n + c.toNatClampNeg) (mkA (newarray.typeOf t) c.toNatClampNeg H) Q) := W_g hd rfl rfl rfl
theorem W_new {ix : Nat} (hd : P.1 m pc = some (.new ix, len, aux)) : W P m pc L S k n H Q ↔ ((0 ≤ aux ∧ k + 1 ≤ (rm P m).cells ∧ n + aux.toNat ≤ (rm P m).slots) ∧ W P m (pc + len) L (.ref H.1 :: S) (k + 1) (n + aux.toNat) (mkO P H) Q) := W_g hd rfl rfl rfl
theorem W_oinit {ix : Nat} (hd : P.1 m pc = some (.invokespecial ix, len, -1)) : W P m pc L (.ref a :: S) k n H Q ↔ ((1 ≤ (rm P m).frames ∧ cs S + 12 ≤ (rm P m).locals) ∧ W P m (pc + len) L S k n H Q) :=
  W_g (G := 1 ≤ (rm P m).frames ∧ cs S + 12 ≤ (rm P m).locals) hd rfl (by simp [cal, cal1]) (by simp [stp])
theorem W_idiv {y : Int32} (hd : P.1 m pc = some (.idiv, len, aux)) : W P m pc L (.int y :: .int x :: S) k n H Q ↔ (¬ y = 0 ∧ W P m (pc + len) L (.int (x / y) :: S) k n H Q) := W_n hd rfl rfl rfl
theorem W_irem {y : Int32} (hd : P.1 m pc = some (.irem, len, aux)) : W P m pc L (.int y :: .int x :: S) k n H Q ↔ (¬ y = 0 ∧ W P m (pc + len) L (.int (x % y) :: S) k n H Q) := W_n hd rfl rfl rfl
theorem W_ldiv {l' : Int64} (hd : P.1 m pc = some (.ldiv, len, aux)) : W P m pc L (.long l' :: .long l :: S) k n H Q ↔ (¬ l' = 0 ∧ W P m (pc + len) L (.long (l / l') :: S) k n H Q) := W_n hd rfl rfl rfl
theorem W_lrem {l' : Int64} (hd : P.1 m pc = some (.lrem, len, aux)) : W P m pc L (.long l' :: .long l :: S) k n H Q ↔ (¬ l' = 0 ∧ W P m (pc + len) L (.long (l % l') :: S) k n H Q) := W_n hd rfl rfl rfl
end Heap
section Call
variable {m' : Nat} {a r : List Value} {b : Nat}
theorem cal_eq (hk : kindOk ins (kd P m') = true) (hl : a.length = na P m') : cal P m ins (m' : Int) (a.reverse ++ r) k n H = if may P m m' a r k n H = true then some (m', a, r) else none := by
  have e1 : (a.reverse ++ r).take (na P m') = a.reverse := by rw [← hl, ← List.length_reverse (as := a)]; exact List.take_left ..
  have e2 : (a.reverse ++ r).drop (na P m') = r := by rw [← hl, ← List.length_reverse (as := a)]; exact List.drop_left ..
  have key : cal1 P m ins (m' : Int) (a.reverse ++ r) k n H = if may P m m' a r k n H = true then some (m', a, r) else none := by
    unfold cal1
    rw [Int.toNat_natCast, e1, e2, List.reverse_reverse]
    simp [hk]
  cases ins <;> first | exact key | (cases hk)
theorem W_call (hd : P.1 m pc = some (ins, len, (m' : Int))) (hr : ret P m ins S = none) (hk : kindOk ins (kd P m') = true) (hl : a.length = na P m') (hS : S = a.reverse ++ r) (hns : stp P m ins len (m' : Int) pc L S k n H = none) :
    W P m pc L S k n H Q ↔ (may P m m' a r k n H = true ∧ Cl P m' a H (fun v H' => W P m (pc + len) L (v.toList ++ r) (k + (rm P m').cells) (n + (rm P m').slots) H' Q)) := by
  have hc : cal P m ins (m' : Int) S k n H = if may P m m' a r k n H = true then some (m', a, r) else none := by rw [hS]; exact cal_eq hk hl
  by_cases g : may P m m' a r k n H = true
  · rw [if_pos g] at hc
    rw [W_c hd hr hc]; simp [g]
  · rw [if_neg g] at hc
    rw [W_q hd hr hc, hns]
    exact ⟨fun ⟨q, e, h⟩ => (by cases e), fun h => absurd h.1 g⟩
theorem W_inst {ix : Nat} {as : List Value} (hd : P.1 m pc = some (.invokevirtual ix, len, (m' : Int))) (hk : kindOk (.invokevirtual ix) (kd P m') = true) (hl : as.length + 1 = na P m') (hS : S = as.reverse ++ .ref b :: r)
    (h1 : (Sym.laidSlots (.ref b :: as)).length ≤ ml P m') (h2 : (rm P m').frames + 1 ≤ (rm P m).frames) (h3 : (rm P m').cells = 0 ∧ (rm P m').slots = 0) :
    W P m pc L S k n H Q ↔ ((isO H b = true ∧ cs r + (ml P m' + 11) + (rm P m').locals ≤ (rm P m).locals) ∧ Cl P m' (.ref b :: as) H (fun v H' => W P m (pc + len) L (v.toList ++ r) k n H' Q)) := by
  rw [W_call (a := .ref b :: as) (r := r) hd rfl hk hl (by rw [hS]; simp) rfl]
  have e : may P m m' (.ref b :: as) r k n H = true ↔ (isO H b = true ∧ cs r + (ml P m' + 11) + (rm P m').locals ≤ (rm P m).locals) := by
    have hk0 : kd P m' ≠ 0 := by intro h; rw [h] at hk; cases hk
    simp [may, rcv, h1, h2, h3, ← hl, hk0]; exact And.comm
  rw [e, h3.1, h3.2]; rfl
theorem W_stat {ix : Nat} (hd : P.1 m pc = some (.invokestatic ix, len, (m' : Int))) (hk : kindOk (.invokestatic ix) (kd P m') = true) (hl : a.length = na P m') (hS : S = a.reverse ++ r)
    (h1 : (Sym.laidSlots a).length ≤ ml P m') (h2 : (rm P m').frames + 1 ≤ (rm P m).frames) (h3 : (rm P m').cells = 0 ∧ (rm P m').slots = 0) :
    W P m pc L S k n H Q ↔ ((cs r + (ml P m' + 11) + (rm P m').locals ≤ (rm P m).locals) ∧ Cl P m' a H (fun v H' => W P m (pc + len) L (v.toList ++ r) k n H' Q)) := by
  rw [W_call (a := a) (r := r) hd rfl hk hl hS rfl]
  have e : may P m m' a r k n H = true ↔ (cs r + (ml P m' + 11) + (rm P m').locals ≤ (rm P m).locals) := by
    have hk0 : kd P m' = 0 := by simpa [kindOk] using hk
    simp [may, h1, h2, h3, hl, hk0]
  rw [e, h3.1, h3.2]; rfl
theorem W_init {ix : Nat} {as : List Value} (hd : P.1 m pc = some (.invokespecial ix, len, (m' : Int))) (hk : kindOk (.invokespecial ix) (kd P m') = true) (hl : as.length + 1 = na P m') (hS : S = as.reverse ++ .ref b :: r)
    (h1 : (Sym.laidSlots (.ref b :: as)).length ≤ ml P m') (h2 : (rm P m').frames + 1 ≤ (rm P m).frames) (h3 : ¬ ((rm P m').cells = 0 ∧ (rm P m').slots = 0)) :
    W P m pc L S k n H Q ↔ ((isO H b = true ∧ cs r + (ml P m' + 11) + (rm P m').locals ≤ (rm P m).locals ∧ k + (rm P m').cells ≤ (rm P m).cells ∧ n + (rm P m').slots ≤ (rm P m).slots) ∧ Cl P m' (.ref b :: as) H (fun v H' => W P m (pc + len) L (v.toList ++ r) (k + (rm P m').cells) (n + (rm P m').slots) H' Q)) := by
  have hns : stp P m (.invokespecial ix) len (m' : Int) pc L S k n H = none := by
    dsimp only [stp]
    split
    · rw [if_neg]; omega
    · rfl
  rw [W_call (a := .ref b :: as) (r := r) hd rfl hk hl (by rw [hS]; simp) hns]
  have e : may P m m' (.ref b :: as) r k n H = true ↔ (isO H b = true ∧ cs r + (ml P m' + 11) + (rm P m').locals ≤ (rm P m).locals ∧ k + (rm P m').cells ≤ (rm P m).cells ∧ n + (rm P m').slots ≤ (rm P m).slots) := by
    have hk0 : kd P m' ≠ 0 := by intro h; rw [h] at hk; cases hk
    simp only [may, rcv, h1, h2, h3, ← hl, hk0, List.length_cons, decide_true, decide_false, Bool.true_and, Bool.false_or, Bool.and_eq_true, decide_eq_true_eq]
    constructor
    · rintro ⟨⟨q1, q2⟩, q3⟩; exact ⟨q3, q1, q2⟩
    · rintro ⟨q3, q1, q2⟩; exact ⟨⟨q1, q2⟩, q3⟩
  rw [e]
end Call
section Last
theorem W_rz {x : Int32} (hd : P.1 m pc = some (.ireturn, len, aux)) (hr : rt P m = some .boolean) : W P m pc L (.int x :: S) k n H Q ↔ ((x = 0 ∨ x = 1) ∧ Q (some (.int x)) H) := by
  by_cases g : x = 0 ∨ x = 1
  · rw [W_r hd (by simp only [ret, hr]; rw [if_pos g])]; simp [g]
  · rw [W_q hd (by simp only [ret, hr]; rw [if_neg g]) rfl]
    constructor
    · rintro ⟨q, e, -⟩; cases e
    · intro h; exact absurd h.1 g
theorem W_newarr' {t : ArrayType} {c : Int32} {N : Nat} (hd : P.1 m pc = some (.newarray t, len, aux)) (hN : c.toNatClampNeg = N) (h1 : ¬ c < 0) (h2 : N * 8 ≤ 536870912) :
    W P m pc L (.int c :: S) k n H Q ↔ ((k + 1 ≤ (rm P m).cells ∧ n + N ≤ (rm P m).slots) ∧ W P m (pc + len) L (.ref H.1 :: S) (k + 1) (n + N) (mkA (newarray.typeOf t) N H) Q) := by
  rw [W_newarr hd, hN]; simp [h1, h2]
theorem W_new' {ix : Nat} (hd : P.1 m pc = some (.new ix, len, aux)) (h0 : 0 ≤ aux) : W P m pc L S k n H Q ↔ ((k + 1 ≤ (rm P m).cells ∧ n + aux.toNat ≤ (rm P m).slots) ∧ W P m (pc + len) L (.ref H.1 :: S) (k + 1) (n + aux.toNat) (mkO P H) Q) := by
  rw [W_new hd]; simp [h0]
def tswW (f : Nat → Prop) (x : Int32) (d : Nat) : Int → List Nat → Prop
  | _, [] => f d
  | lo, q :: qs => if x = Int32.ofInt lo then f q else tswW f x d (lo + 1) qs
theorem tswW_eq (f : Nat → Prop) (x : Int32) (d : Nat) : ∀ (qs : List Nat) (lo : Int), -2147483648 ≤ lo → lo + qs.length ≤ 2147483648 → (tswW f x d lo qs ↔ f (if x.toInt < lo ∨ lo + qs.length ≤ x.toInt then d else qs.getD (x.toInt - lo).toNat d)) := by
  intro qs
  induction qs with
  | nil => intro lo h1 h2; simp only [tswW, List.length_nil]; rw [if_pos (by omega)]
  | cons q qs ih =>
    intro lo h1 h2
    simp only [List.length_cons] at h2 ⊢
    have hx : x = Int32.ofInt lo ↔ x.toInt = lo := by
      rw [← Int32.toInt_inj, Int32.toInt_ofInt_of_le (by omega) (by omega)]
    simp only [tswW]
    by_cases e : x.toInt = lo
    · rw [if_pos (hx.mpr e), if_neg (by omega)]
      have : (x.toInt - lo).toNat = 0 := by omega
      rw [this]; rfl
    · rw [if_neg (fun h => e (hx.mp h)), ih (lo + 1) (by omega) (by omega)]
      by_cases g : x.toInt < lo ∨ lo + ((qs.length : Int) + 1) ≤ x.toInt
      · rw [if_pos (by omega), if_pos (by omega)]
      · rw [if_neg (by omega), if_neg (by omega)]
        have : (x.toInt - lo).toNat = (x.toInt - (lo + 1)).toNat + 1 := by omega
        rw [this]; rfl
theorem W_tsw {x : Int32} {d lo hi : Int} {os : Array Int} {qs : List Nat} {dq : Nat} (hd : P.1 m pc = some (.tableswitch d lo hi os, len, aux)) (h0 : jmp pc d = some dq) (h1 : os.toList.map (jmp pc) = qs.map some) (h2 : -2147483648 ≤ lo ∧ lo + qs.length ≤ 2147483648 ∧ hi = lo + qs.length - 1) :
    W P m pc L (.int x :: S) k n H Q ↔ tswW (fun q => W P m q L S k n H Q) x dq lo qs := by
  rw [tswW_eq _ _ _ _ _ h2.1 h2.2.1]
  have hlen : os.size = qs.length := by have := congrArg List.length h1; simpa using this
  refine W_s hd rfl rfl ?_
  show (if x.toInt < lo ∨ x.toInt > hi then (jmp pc d).map fun q => (q, L, S, k, n, H) else (os[(x.toInt - lo).toNat]?).bind fun o => (jmp pc o).map fun q => (q, L, S, k, n, H)) = _
  by_cases g : x.toInt < lo ∨ x.toInt > hi
  · rw [if_pos g, if_pos (by omega), h0]; rfl
  · rw [if_neg g, if_neg (by omega)]
    have hi2 : (x.toInt - lo).toNat < qs.length := by omega
    have e1 : (os.toList.map (jmp pc))[(x.toInt - lo).toNat]? = some (some (qs.getD (x.toInt - lo).toNat dq)) := by
      rw [h1]; simp [hi2]
    rw [List.getElem?_map, Array.getElem?_toList] at e1
    obtain ⟨o, ho, hj⟩ := Option.map_eq_some_iff.mp e1
    rw [ho]; simp [hj]
theorem cmpL_lt {x y : Int64} : Jvm.Free.XT.cmpL x y < 0 ↔ x < y := by
  unfold Jvm.Free.XT.cmpL
  by_cases h1 : y < x
  · rw [if_pos h1]; exact ⟨fun h => absurd h (by decide), fun h => by rw [Int64.lt_iff_toInt_lt] at *; omega⟩
  · rw [if_neg h1]
    by_cases h2 : x = y
    · rw [if_pos h2]; exact ⟨fun h => absurd h (by decide), fun h => by subst h2; rw [Int64.lt_iff_toInt_lt] at *; omega⟩
    · rw [if_neg h2]; refine ⟨fun _ => ?_, fun _ => by decide⟩
      rw [Int64.lt_iff_toInt_lt] at *; rw [← Int64.toInt_inj] at h2; omega
theorem cmpL_gt {x y : Int64} : 0 < Jvm.Free.XT.cmpL x y ↔ y < x := by
  unfold Jvm.Free.XT.cmpL
  by_cases h1 : y < x
  · rw [if_pos h1]; exact ⟨fun _ => h1, fun _ => by decide⟩
  · rw [if_neg h1]
    by_cases h2 : x = y
    · rw [if_pos h2]; exact ⟨fun h => absurd h (by decide), fun h => absurd h h1⟩
    · rw [if_neg h2]; exact ⟨fun h => absurd h (by decide), fun h => absurd h h1⟩
theorem cmpL_eq {x y : Int64} : Jvm.Free.XT.cmpL x y = 0 ↔ x = y := by
  unfold Jvm.Free.XT.cmpL
  by_cases h1 : y < x
  · rw [if_pos h1]; exact ⟨fun h => absurd h (by decide), fun h => by subst h; rw [Int64.lt_iff_toInt_lt] at h1; omega⟩
  · rw [if_neg h1]
    by_cases h2 : x = y
    · rw [if_pos h2]; exact ⟨fun _ => h2, fun _ => rfl⟩
    · rw [if_neg h2]; exact ⟨fun h => absurd h (by decide), fun h => absurd h h2⟩
end Last
end Rules
abbrev LW : Type := (Nat → Nat → Option (Instr × Nat × Int)) × (Nat → MInfo)
abbrev Row : Type := Nat × Instr × Nat × Int
end Jvm.JX

namespace Jvm.JX
open Sem ClassFile Op Lib
abbrev St : Type := (Nat → Int32) × (Nat → Int64) × (Nat → Nat → Int32) × (Nat → Nat → Int64)
abbrev Lay : Type := List (FieldType × Nat) × List (FieldType × Nat)
def sI (s : St) (k : Nat) : Int32 := s.1 k
def sJ (s : St) (k : Nat) : Int64 := s.2.1 k
def sA (s : St) (t i : Nat) : Int32 := s.2.2.1 t i
def sB (s : St) (t i : Nat) : Int64 := s.2.2.2 t i
def uI (s : St) (k : Nat) (v : Int32) : St := (fun j => if j = k then v else s.1 j, s.2.1, s.2.2.1, s.2.2.2)
def uJ (s : St) (k : Nat) (v : Int64) : St := (s.1, fun j => if j = k then v else s.2.1 j, s.2.2.1, s.2.2.2)
def uA (s : St) (t i : Nat) (v : Int32) : St := (s.1, s.2.1, fun t' i' => if t' = t ∧ i' = i then v else s.2.2.1 t' i', s.2.2.2)
def uB (s : St) (t i : Nat) (v : Int64) : St := (s.1, s.2.1, s.2.2.1, fun t' i' => if t' = t ∧ i' = i then v else s.2.2.2 t' i')
def z0 : St := (fun _ => 0, fun _ => 0, fun _ _ => 0, fun _ _ => 0)
section St
variable {s : St} {k j t i t' i' : Nat} {v : Int32} {w : Int64}
theorem sI_uI : sI (uI s k v) j = if j = k then v else sI s j := by simp [sI, sJ, sA, sB, uI, uJ, uA, uB, z0]
theorem sI_uJ : sI (uJ s k w) j = sI s j := by simp [sI, sJ, sA, sB, uI, uJ, uA, uB, z0]
theorem sI_uA : sI (uA s t i v) j = sI s j := by simp [sI, sJ, sA, sB, uI, uJ, uA, uB, z0]
theorem sI_uB : sI (uB s t i w) j = sI s j := by simp [sI, sJ, sA, sB, uI, uJ, uA, uB, z0]
theorem sJ_uI : sJ (uI s k v) j = sJ s j := by simp [sI, sJ, sA, sB, uI, uJ, uA, uB, z0]
theorem sJ_uJ : sJ (uJ s k w) j = if j = k then w else sJ s j := by simp [sI, sJ, sA, sB, uI, uJ, uA, uB, z0]
theorem sJ_uA : sJ (uA s t i v) j = sJ s j := by simp [sI, sJ, sA, sB, uI, uJ, uA, uB, z0]
theorem sJ_uB : sJ (uB s t i w) j = sJ s j := by simp [sI, sJ, sA, sB, uI, uJ, uA, uB, z0]
theorem sA_uI : sA (uI s k v) t' i' = sA s t' i' := by simp [sI, sJ, sA, sB, uI, uJ, uA, uB, z0]
theorem sA_uJ : sA (uJ s k w) t' i' = sA s t' i' := by simp [sI, sJ, sA, sB, uI, uJ, uA, uB, z0]
theorem sA_uA : sA (uA s t i v) t' i' = if t' = t ∧ i' = i then v else sA s t' i' := by simp [sI, sJ, sA, sB, uI, uJ, uA, uB, z0]
theorem sA_uB : sA (uB s t i w) t' i' = sA s t' i' := by simp [sI, sJ, sA, sB, uI, uJ, uA, uB, z0]
theorem sB_uI : sB (uI s k v) t' i' = sB s t' i' := by simp [sI, sJ, sA, sB, uI, uJ, uA, uB, z0]
theorem sB_uJ : sB (uJ s k w) t' i' = sB s t' i' := by simp [sI, sJ, sA, sB, uI, uJ, uA, uB, z0]
theorem sB_uA : sB (uA s t i v) t' i' = sB s t' i' := by simp [sI, sJ, sA, sB, uI, uJ, uA, uB, z0]
theorem sB_uB : sB (uB s t i w) t' i' = if t' = t ∧ i' = i then w else sB s t' i' := by simp [sI, sJ, sA, sB, uI, uJ, uA, uB, z0]
theorem sI_z0 : sI z0 k = 0 := by simp [sI, sJ, sA, sB, uI, uJ, uA, uB, z0]
theorem sJ_z0 : sJ z0 k = 0 := by simp [sI, sJ, sA, sB, uI, uJ, uA, uB, z0]
theorem sA_z0 : sA z0 t i = 0 := by simp [sI, sJ, sA, sB, uI, uJ, uA, uB, z0]
theorem sB_z0 : sB z0 t i = 0 := by simp [sI, sJ, sA, sB, uI, uJ, uA, uB, z0]
theorem St_ext {s s' : St} (h1 : ∀ k, sI s k = sI s' k) (h2 : ∀ k, sJ s k = sJ s' k) (h3 : ∀ t i, sA s t i = sA s' t i) (h4 : ∀ t i, sB s t i = sB s' t i) : s = s' :=
  Prod.ext (funext h1) (Prod.ext (funext h2) (Prod.ext (funext fun t => funext (h3 t)) (funext fun t => funext (h4 t))))
end St
def zr (s : St) (t : Nat) : Prop := (∀ i, sA s t i = 0) ∧ ∀ i, sB s t i = 0
theorem zr_z0 {t : Nat} : zr z0 t = True := by simp [zr, sA_z0, sB_z0]
theorem zr_uI {s : St} {t k : Nat} {v : Int32} : zr (uI s k v) t = zr s t := by simp [zr, sA_uI, sB_uI]
theorem zr_uJ {s : St} {t k : Nat} {v : Int64} : zr (uJ s k v) t = zr s t := by simp [zr, sA_uJ, sB_uJ]
def fvl (y : Lay) (j p : Nat) (s : St) (k : Nat) : Value := match y.1[k]? with
  | some (.long, _) => .long (sJ s k)
  | some (.array _, t) => if t ≤ j then .ref (p + t) else .null
  | _ => .int (sI s k)
def blk (y : Lay) (j p : Nat) (s : St) : Nat → Cel
  | 0 => (.object "", y.1.length, true, fvl y j p s)
  | t + 1 => match y.2[t]? with
    | some (.long, n) => (.array .long, n, true, fun i => .long (sB s (t + 1) i))
    | some (ty, n) => (.array ty, n, true, fun i => .int (sA s (t + 1) i))
    | none => (.char, 0, false, fun _ => .null)
def put (y : Lay) (j : Nat) (H : AH) (p : Nat) (s : St) : AH := (H.1, fun a => if p ≤ a ∧ a ≤ p + j then blk y j p s (a - p) else H.2 a)
section Put
variable {y : Lay} {j : Nat} {H : AH} {p : Nat} {s : St} {k t n : Nat} {ty : FieldType} {i : Int32}
theorem put_0 : (put y j H p s).2 p = (.object "", y.1.length, true, fvl y j p s) := by simp [put, blk]
theorem put_t (ht : t ≤ j) : (put y j H p s).2 (p + t) = blk y j p s t := by simp [put, ht]
theorem put_ot {a : Nat} (h : a < p ∨ p + j < a) : (put y j H p s).2 a = H.2 a := by
  have : ¬ (p ≤ a ∧ a ≤ p + j) := by omega
  simp [put, this]
theorem isO_put : isO (put y j H p s) p = true := by simp [isO, put_0]
theorem isOw_put : isOw (put y j H p s) p = true := by simp [isOw, isO_put, put_0]
theorem fld_I (h : y.1[k]? = some (ty, t)) (hl : ty ≠ .long) (ha : ∀ e, ty ≠ .array e) : fld (put y j H p s) p k = .int (sI s k) := by
  simp only [fld, put_0, fvl, h]; cases ty <;> first | rfl | exact absurd rfl hl | exact absurd rfl (ha _)
theorem fld_J (h : y.1[k]? = some (.long, t)) : fld (put y j H p s) p k = .long (sJ s k) := by simp only [fld, put_0, fvl, h]
theorem fld_R (h : y.1[k]? = some (.array ty, t)) (ht : t ≤ j) : fld (put y j H p s) p k = .ref (p + t) := by simp only [fld, put_0, fvl, h, ht, if_true]
theorem blk_I (h : y.2[t]? = some (ty, n)) (hl : ty ≠ .long) : blk y j p s (t + 1) = (.array ty, n, true, fun i => .int (sA s (t + 1) i)) := by
  simp only [blk, h]
theorem blk_J (h : y.2[t]? = some (.long, n)) : blk y j p s (t + 1) = (.array .long, n, true, fun i => .long (sB s (t + 1) i)) := by simp only [blk, h]
theorem clamp_lt {i : Int32} {n : Nat} : (¬ i < 0 ∧ i.toNatClampNeg < n) ↔ (0 ≤ i.toInt ∧ i.toInt < n) := by
  simp only [Int32.lt_iff_toInt_lt, Int32.toNatClampNeg, Int32.reduceToInt]; omega
theorem inA_I (h : y.2[t]? = some (ty, n)) (hl : ty ≠ .long) (ht : t + 1 ≤ j) : inA (put y j H p s) (p + (t + 1)) ty i = true ↔ (0 ≤ i.toInt ∧ i.toInt < n) := by
  rw [← clamp_lt]; simp [inA, put_t ht, blk_I h hl]
theorem inA_J (h : y.2[t]? = some (.long, n)) (ht : t + 1 ≤ j) : inA (put y j H p s) (p + (t + 1)) .long i = true ↔ (0 ≤ i.toInt ∧ i.toInt < n) := by
  rw [← clamp_lt]; simp [inA, put_t ht, blk_J h]
theorem inA_no {ty' : FieldType} (h : y.2[t]? = some (ty, n)) (hl : ty ≠ .long) (ht : t + 1 ≤ j) (hne : ty ≠ ty') : inA (put y j H p s) (p + (t + 1)) ty' i = true ↔ False := by
  simp [inA, put_t ht, blk_I h hl, hne]
theorem inAw_I (h : y.2[t]? = some (ty, n)) (hl : ty ≠ .long) (ht : t + 1 ≤ j) : inAw (put y j H p s) (p + (t + 1)) ty i = true ↔ (0 ≤ i.toInt ∧ i.toInt < n) := by
  rw [← inA_I (H := H) (p := p) (s := s) h hl ht]; simp [inAw, put_t ht, blk_I h hl]
theorem inAw_J (h : y.2[t]? = some (.long, n)) (ht : t + 1 ≤ j) : inAw (put y j H p s) (p + (t + 1)) .long i = true ↔ (0 ≤ i.toInt ∧ i.toInt < n) := by
  rw [← inA_J (H := H) (p := p) (s := s) h ht]; simp [inAw, put_t ht, blk_J h]
theorem inAw_no {ty' : FieldType} (h : y.2[t]? = some (ty, n)) (hl : ty ≠ .long) (ht : t + 1 ≤ j) (hne : ty ≠ ty') : inAw (put y j H p s) (p + (t + 1)) ty' i = true ↔ False := by
  simp [inAw, inA, put_t ht, blk_I h hl, hne]
theorem elt_I (h : y.2[t]? = some (ty, n)) (hl : ty ≠ .long) (ht : t + 1 ≤ j) : elt (put y j H p s) (p + (t + 1)) i = .int (sA s (t + 1) i.toNatClampNeg) := by
  simp only [elt, put_t ht, blk_I h hl]
theorem elt_J (h : y.2[t]? = some (.long, n)) (ht : t + 1 ≤ j) : elt (put y j H p s) (p + (t + 1)) i = .long (sB s (t + 1) i.toNatClampNeg) := by
  simp only [elt, put_t ht, blk_J h]
theorem alen_t (h : y.2[t]? = some (ty, n)) (ht : t + 1 ≤ j) : alen (put y j H p s) (p + (t + 1)) = n := by
  by_cases hl : ty = .long
  · subst hl; simp only [alen, put_t ht, blk_J h]
  · simp only [alen, put_t ht, blk_I h hl]
theorem put_wr {s' : St} {t q : Nat} {v : Value} (ht : t ≤ j) (hb : ∀ t', blk y j p s' t' = if t' = t then ((blk y j p s t).1, (blk y j p s t).2.1, (blk y j p s t).2.2.1, fun i => if i = q then v else (blk y j p s t).2.2.2 i) else blk y j p s t') :
    wr (put y j H p s) (p + t) q v = put y j H p s' := by
  refine Prod.ext rfl (funext fun a => ?_)
  simp only [wr, put_t ht]
  by_cases e : a = p + t
  · subst e; simp [put, ht, hb]
  · simp only [e, if_false, put]
    by_cases g : p ≤ a ∧ a ≤ p + j
    · have : a - p ≠ t := by omega
      simp [g, hb, this]
    · simp [g]
theorem fvl_uI {v : Int32} (h : y.1[k]? = some (ty, t)) (hl : ty ≠ .long) (ha : ∀ e, ty ≠ .array e) (i : Nat) : fvl y j p (uI s k v) i = if i = k then .int v else fvl y j p s i := by
  by_cases e : i = k
  · subst e; simp only [fvl, h, if_true]; cases ty <;> first | (simp [sI_uI]; done) | exact absurd rfl hl | exact absurd rfl (ha _)
  · simp only [fvl, e, if_false, sI_uI, sJ_uI]
theorem fvl_uJ {v : Int64} (h : y.1[k]? = some (.long, t)) (i : Nat) : fvl y j p (uJ s k v) i = if i = k then .long v else fvl y j p s i := by
  by_cases e : i = k
  · subst e; simp only [fvl, h, if_true, sJ_uJ]
  · simp only [fvl, e, if_false, sI_uJ, sJ_uJ]
theorem wr_I {v : Int32} (h : y.1[k]? = some (ty, t)) (hl : ty ≠ .long) (ha : ∀ e, ty ≠ .array e) : wr (put y j H p s) p k (.int v) = put y j H p (uI s k v) := by
  refine put_wr (t := 0) (Nat.zero_le _) fun t' => ?_
  cases t' with
  | zero => simp only [blk, if_true]; exact congrArg (fun f => (_, _, _, f)) (funext fun i => fvl_uI h hl ha i)
  | succ t' => simp [blk, sA_uI, sB_uI]
theorem wr_J {v : Int64} (h : y.1[k]? = some (.long, t)) : wr (put y j H p s) p k (.long v) = put y j H p (uJ s k v) := by
  refine put_wr (t := 0) (Nat.zero_le _) fun t' => ?_
  cases t' with
  | zero => simp only [blk, if_true]; exact congrArg (fun f => (_, _, _, f)) (funext fun i => fvl_uJ h i)
  | succ t' => simp [blk, sA_uJ, sB_uJ]
theorem wr_A {v : Int32} {q : Nat} (h : y.2[t]? = some (ty, n)) (hl : ty ≠ .long) (ht : t + 1 ≤ j) : wr (put y j H p s) (p + (t + 1)) q (.int v) = put y j H p (uA s (t + 1) q v) := by
  refine put_wr ht fun t' => ?_
  by_cases e : t' = t + 1
  · subst e
    simp only [blk_I h hl, if_true, sA_uA, true_and]
    exact congrArg (fun f => (_, _, _, f)) (funext fun i => by split <;> rfl)
  · simp only [e, if_false]
    cases t' with
    | zero => rfl
    | succ t' => have : ¬ t' = t := fun q => e (by rw [q]); simp [blk, sA_uA, sB_uA, this]
theorem wr_B {v : Int64} {q : Nat} (h : y.2[t]? = some (.long, n)) (ht : t + 1 ≤ j) : wr (put y j H p s) (p + (t + 1)) q (.long v) = put y j H p (uB s (t + 1) q v) := by
  refine put_wr ht fun t' => ?_
  by_cases e : t' = t + 1
  · subst e
    simp only [blk_J h, if_true, sB_uB, true_and]
    exact congrArg (fun f => (_, _, _, f)) (funext fun i => by split <;> rfl)
  · simp only [e, if_false]
    cases t' with
    | zero => rfl
    | succ t' => have : ¬ t' = t := fun q => e (by rw [q]); simp [blk, sA_uB, sB_uB, this]
theorem mkO_put {P : Prog} (hn : P.2.2.2 = y.1.length) (hf : ∀ k, defaultValue (P.2.2.1 k) = fvl y 0 H.1 z0 k) : mkO P H = put y 0 (H.1 + 1, H.2) H.1 z0 := by
  refine Prod.ext rfl (funext fun a => ?_)
  by_cases e : a = H.1
  · subst e; simp only [mkO, if_true, put_0, hn]; exact congrArg (fun f => (_, _, _, f)) (funext fun k => hf k)
  · have : ¬ (H.1 ≤ a ∧ a ≤ H.1 + 0) := by omega
    simp only [mkO, put, e, if_false, if_neg this]
theorem mkA_put {h : Nat → Cel} (h1 : y.1[k]? = some (.array ty, j + 1)) (h2 : y.2[j]? = some (ty, n)) (hu : (List.range y.1.length).all (fun k' => decide (k' = k) || ((y.1.getD k' (.int, 0)).2 != j + 1)) = true) (hz : ∀ i, sA s (j + 1) i = 0) (hz' : ∀ i, sB s (j + 1) i = 0) (hty : ty = .int ∨ ty = .long ∨ ty = .byte ∨ ty = .boolean) :
    wr (mkA ty n (put y j (p + (j + 1), h) p s)) p k (.ref (p + (j + 1))) = put y (j + 1) (p + (j + 1) + 1, h) p s := by
  refine Prod.ext rfl (funext fun a => ?_)
  have hp : ¬ p = p + (j + 1) := by omega
  have hN : (put y j (p + (j + 1), h) p s).1 = p + (j + 1) := rfl
  by_cases e : a = p
  · subst e
    simp only [wr, mkA, hN, if_true, hp, if_false, put_0]
    refine congrArg (fun f => (_, _, _, f)) (funext fun i => ?_)
    by_cases e2 : i = k
    · subst e2; simp [fvl, h1]
    · simp only [e2, if_false, fvl]
      cases hq : y.1[i]? with
      | none => rfl
      | some x =>
        obtain ⟨x1, x2⟩ := x
        cases x1 <;> try rfl
        rename_i el
        have : x2 ≠ j + 1 := fun q => by
          have hlt : i < y.1.length := (List.getElem?_eq_some_iff.mp hq).1
          have u := List.all_eq_true.mp hu i (List.mem_range.mpr hlt)
          simp [e2, hq, q] at u
        have : (x2 ≤ j + 1) = (x2 ≤ j) := propext ⟨fun _ => by omega, fun _ => by omega⟩
        simp [this]
  · simp only [wr, mkA, hN, e, if_false]
    by_cases e2 : a = p + (j + 1)
    · subst e2
      simp only [if_true, put_t (Nat.le_refl (j + 1))]
      rcases hty with rfl | rfl | rfl | rfl
      · simp only [blk, h2, hz]; rfl
      · simp only [blk, h2, hz']; rfl
      · simp only [blk, h2, hz]; rfl
      · simp only [blk, h2, hz]; rfl
    · simp only [e2, if_false, put]
      by_cases g : p ≤ a ∧ a ≤ p + j
      · have g2 : p ≤ a ∧ a ≤ p + (j + 1) := by omega
        simp only [g, g2, and_self, if_true]
        obtain ⟨t, ht⟩ : ∃ t, a - p = t + 1 := ⟨a - p - 1, by omega⟩
        rw [ht]; rfl
      · have g2 : ¬ (p ≤ a ∧ a ≤ p + (j + 1)) := by omega
        simp only [g, g2, if_false]
theorem isOw_mk {h : Nat → Cel} {c : Nat} : isOw (mkA ty n (put y j (p + (c + 1), h) p s)) p = true := by
  have : ¬ p = p + (c + 1) := by omega
  have hN : (put y j (p + (c + 1), h) p s).1 = p + (c + 1) := rfl
  simp [isOw, isO, mkA, hN, this, put_0]
theorem put_fst : (put y j H p s).1 = H.1 := by simp [put]
theorem cl_unf {P : Prog} {m : Nat} {a : List Value} {L : List Slot} {Q : Option Value → AH → Prop} (h : ent P m a = L) : Cl P m a H Q ↔ W P m 0 L [] 0 0 H Q := by unfold Cl; rw [h]
theorem put_comm {y' : Lay} {j' p' : Nat} {s' : St} (h : p + j < p' ∨ p' + j' < p) : put y j (put y' j' H p' s') p s = put y' j' (put y j H p s) p' s' := by
  refine Prod.ext rfl (funext fun a => ?_)
  simp only [put]
  by_cases g : p ≤ a ∧ a ≤ p + j
  · have g2 : ¬ (p' ≤ a ∧ a ≤ p' + j') := by omega
    simp [g, g2]
  · simp only [g, if_false]
theorem isO_ot {a : Nat} (h : a < p ∨ p + j < a) : isO (put y j H p s) a = isO H a := by simp only [isO, put_ot h]
theorem inA_ot {a : Nat} (h : a < p ∨ p + j < a) : inA (put y j H p s) a ty i = inA H a ty i := by simp only [inA, put_ot h]
theorem isA_ot {a : Nat} (h : a < p ∨ p + j < a) : isA (put y j H p s) a = isA H a := by simp only [isA, put_ot h]
theorem elt_ot {a : Nat} (h : a < p ∨ p + j < a) : elt (put y j H p s) a i = elt H a i := by simp only [elt, put_ot h]
theorem alen_ot {a : Nat} (h : a < p ∨ p + j < a) : alen (put y j H p s) a = alen H a := by simp only [alen, put_ot h]
end Put
def noc : Cel := (.char, 0, false, fun _ => .null)
def H0 (n : Nat) : AH := (n, fun _ => noc)
def H1 (n a len : Nat) (f : Nat → Int32) : AH := (n, fun b => if b = a then (.array .int, len, false, fun i => .int (f i)) else noc)
theorem isA_H1 {n a len : Nat} {f : Nat → Int32} : isA (H1 n a len f) a = true := by simp [isA, H1]
theorem alen_H1 {n a len : Nat} {f : Nat → Int32} : alen (H1 n a len f) a = len := by simp [alen, H1]
theorem inA_H1 {n a len : Nat} {f : Nat → Int32} {i : Int32} : inA (H1 n a len f) a .int i = true ↔ (0 ≤ i.toInt ∧ i.toInt < len) := by rw [← clamp_lt]; simp [inA, H1]
theorem elt_H1 {n a len : Nat} {f : Nat → Int32} {i : Int32} : elt (H1 n a len f) a i = .int (f i.toNatClampNeg) := by simp [elt, H1]
def cl (lo hi v : Int32) : Int32 := if v < lo then lo else if hi < v then hi else v
theorem cl3 {lo hi : Int32} (v : Int32) (h : ¬ hi < lo) : (v < lo ∧ ¬ hi < v) ∨ (¬ v < lo ∧ hi < v) ∨ (¬ v < lo ∧ ¬ hi < v) := by
  by_cases h1 : v < lo
  · exact Or.inl ⟨h1, fun h2 => h (by rw [Int32.lt_iff_toInt_lt] at *; omega)⟩
  · by_cases h2 : hi < v
    · exact Or.inr (Or.inl ⟨h1, h2⟩)
    · exact Or.inr (Or.inr ⟨h1, h2⟩)
section Okv
variable {x : Int32} {l : Int64} {a : Nat} {t : FieldType}
theorem okv_int : (okv .int (.int x) = true) = True := by simp [okv]
theorem okv_long : (okv .long (.long l) = true) = True := by simp [okv]
theorem okv_ref : (okv (.array t) (.ref a) = true) = True := by simp [okv]
theorem okv_bool : (okv .boolean (.int x) = true) = (x = 0 ∨ x = 1) := by simp [okv]
theorem okv_byte : (okv .byte (.int x) = true) = (x.toInt8.toInt32 = x) := by simp [okv]
end Okv
end Jvm.JX

namespace Jvm.JX
open Sem ClassFile Op Lib
section Num
theorem ia {x y : Int32} (h1 : -2147483648 ≤ x.toInt + y.toInt) (h2 : x.toInt + y.toInt ≤ 2147483647) : (x + y).toInt = x.toInt + y.toInt := by
  rw [Int32.toInt_add]; exact Int.bmod_eq_of_le (by omega) (by omega)
theorem isb {x y : Int32} (h1 : -2147483648 ≤ x.toInt - y.toInt) (h2 : x.toInt - y.toInt ≤ 2147483647) : (x - y).toInt = x.toInt - y.toInt := by
  rw [Int32.toInt_sub]; exact Int.bmod_eq_of_le (by omega) (by omega)
theorem im {x y : Int32} (h1 : -2147483648 ≤ x.toInt * y.toInt) (h2 : x.toInt * y.toInt ≤ 2147483647) : (x * y).toInt = x.toInt * y.toInt := by
  rw [Int32.toInt_mul]; exact Int.bmod_eq_of_le (by omega) (by omega)
theorem ja {x y : Int64} (h1 : -9223372036854775808 ≤ x.toInt + y.toInt) (h2 : x.toInt + y.toInt ≤ 9223372036854775807) : (x + y).toInt = x.toInt + y.toInt := by
  rw [Int64.toInt_add]; exact Int.bmod_eq_of_le (by omega) (by omega)
theorem jsb {x y : Int64} (h1 : -9223372036854775808 ≤ x.toInt - y.toInt) (h2 : x.toInt - y.toInt ≤ 9223372036854775807) : (x - y).toInt = x.toInt - y.toInt := by
  rw [Int64.toInt_sub]; exact Int.bmod_eq_of_le (by omega) (by omega)
theorem jm {x y : Int64} (h1 : -9223372036854775808 ≤ x.toInt * y.toInt) (h2 : x.toInt * y.toInt ≤ 9223372036854775807) : (x * y).toInt = x.toInt * y.toInt := by
  rw [Int64.toInt_mul]; exact Int.bmod_eq_of_le (by omega) (by omega)
theorem lt32 {x y : Int32} : x < y ↔ x.toInt < y.toInt := Int32.lt_iff_toInt_lt
theorem le32 {x y : Int32} : x ≤ y ↔ x.toInt ≤ y.toInt := Int32.le_iff_toInt_le
theorem eq32 {x y : Int32} : x = y ↔ x.toInt = y.toInt := Int32.toInt_inj.symm
theorem lt64 {x y : Int64} : x < y ↔ x.toInt < y.toInt := Int64.lt_iff_toInt_lt
theorem eq64 {x y : Int64} : x = y ↔ x.toInt = y.toInt := Int64.toInt_inj.symm
theorem rg32 (x : Int32) : -2147483648 ≤ x.toInt ∧ x.toInt ≤ 2147483647 := ⟨Int32.le_toInt x, by have := Int32.toInt_lt x; omega⟩
theorem rg64 (x : Int64) : -9223372036854775808 ≤ x.toInt ∧ x.toInt ≤ 9223372036854775807 := ⟨Int64.le_toInt x, by have := Int64.toInt_lt x; omega⟩
theorem cln {i : Int32} : i.toNatClampNeg = i.toInt.toNat := rfl
theorem idx2 {u v : Int32} {a b : Int} (c : Int32) (hc : 0 ≤ c.toInt ∧ c.toInt ≤ 1000) (hu : 0 ≤ u.toInt ∧ u.toInt < a) (hv : 0 ≤ v.toInt ∧ v.toInt < b) (ha : a ≤ 1000) (hb : b ≤ 1000) : (u * c + v).toInt = u.toInt * c.toInt + v.toInt := by
  have h1 : u.toInt * c.toInt ≤ 1000 * 1000 := Int.mul_le_mul (by omega) (by omega) (by omega) (by omega)
  have h0 : 0 ≤ u.toInt * c.toInt := Int.mul_nonneg (by omega) (by omega)
  have e : (u * c).toInt = u.toInt * c.toInt := im (by omega) (by omega)
  rw [ia (by rw [e]; omega) (by rw [e]; omega), e]
theorem cl_rg {lo hi : Int32} (v : Int32) (h : lo.toInt ≤ hi.toInt) : lo.toInt ≤ (cl lo hi v).toInt ∧ (cl lo hi v).toInt ≤ hi.toInt := by
  unfold cl
  by_cases h1 : v < lo
  · rw [if_pos h1]; omega
  · rw [if_neg h1]
    by_cases h2 : hi < v
    · rw [if_pos h2]; omega
    · rw [if_neg h2]; rw [lt32] at h1 h2; omega
end Num
section Fill
def fA (s : St) (t lo hi : Nat) (v : Int32) : St := (s.1, s.2.1, fun t' i => if t' = t ∧ lo ≤ i ∧ i < hi then v else s.2.2.1 t' i, s.2.2.2)
variable {s : St} {t lo hi k i t' : Nat} {v : Int32}
theorem sI_fA : sI (fA s t lo hi v) k = sI s k := by simp [sI, fA]
theorem sJ_fA : sJ (fA s t lo hi v) k = sJ s k := by simp [sJ, fA]
theorem sA_fA : sA (fA s t lo hi v) t' i = if t' = t ∧ lo ≤ i ∧ i < hi then v else sA s t' i := by simp [sA, fA]
theorem sB_fA : sB (fA s t lo hi v) t' i = sB s t' i := by simp [sB, fA]
theorem fA_nil (h : hi ≤ lo) : fA s t lo hi v = s := by
  refine St_ext (fun k => sI_fA) (fun k => sJ_fA) (fun t' i => ?_) (fun t' i => sB_fA)
  rw [sA_fA, if_neg (by omega)]
theorem fA_step (h : lo < hi) : fA (uA s t lo v) t (lo + 1) hi v = fA s t lo hi v := by
  refine St_ext (fun k => by simp only [sI_fA, sI_uA]) (fun k => by simp only [sJ_fA, sJ_uA]) (fun t' i => ?_) (fun t' i => by simp only [sB_fA, sB_uA])
  simp only [sA_fA, sA_uA]
  by_cases h1 : t' = t ∧ lo + 1 ≤ i ∧ i < hi
  · rw [if_pos h1, if_pos (by omega)]
  · rw [if_neg h1]
    by_cases h2 : t' = t ∧ i = lo
    · rw [if_pos h2, if_pos (by omega)]
    · rw [if_neg h2, if_neg (by omega)]
end Fill
section Cnt
def cnt (f : Nat → Bool) : Nat → Nat → Nat
  | _, 0 => 0
  | j, k + 1 => (if f j = true then 1 else 0) + cnt f (j + 1) k
theorem cnt_none {f : Nat → Bool} : ∀ (k j : Nat), (∀ i, j ≤ i → i < j + k → f i = false) → cnt f j k = 0
  | 0, _, _ => rfl
  | k + 1, j, h => by
    have h1 := h j (Nat.le_refl _) (by omega)
    simp only [cnt, h1]
    rw [cnt_none k (j + 1) fun i a b => h i (by omega) (by omega)]; rfl
theorem cnt_one {f : Nat → Bool} {x : Nat} : ∀ (k j : Nat), j ≤ x → x < j + k → f x = true → (∀ i, j ≤ i → i < j + k → i ≠ x → f i = false) → cnt f j k = 1
  | 0, j, h1, h2, _, _ => by omega
  | k + 1, j, h1, h2, hx, h => by
    simp only [cnt]
    by_cases e : j = x
    · subst e
      rw [hx, cnt_none k (j + 1) fun i a b => h i (by omega) (by omega) (by omega)]; rfl
    · rw [h j (Nat.le_refl _) (by omega) e, cnt_one k (j + 1) (by omega) (by omega) hx fun i a b c => h i (by omega) (by omega) c]; rfl
theorem cnt_le {f : Nat → Bool} : ∀ (k j : Nat), cnt f j k ≤ k
  | 0, _ => Nat.le_refl _
  | k + 1, j => by have := cnt_le (f := f) k (j + 1); simp only [cnt]; split <;> omega
theorem cnt_congr {f g : Nat → Bool} : ∀ (k j : Nat), (∀ i, j ≤ i → i < j + k → f i = g i) → cnt f j k = cnt g j k
  | 0, _, _ => rfl
  | k + 1, j, h => by simp only [cnt]; rw [h j (Nat.le_refl _) (by omega), cnt_congr k (j + 1) fun i a b => h i (by omega) (by omega)]
theorem ofNat_one_add (c : Int32) (x : Nat) : c + 1 + Int32.ofNat x = c + Int32.ofNat (1 + x) := by
  rw [Int32.ofNat_add, Int32.add_assoc]; rfl
theorem add_ofNat_zero (c : Int32) : c + Int32.ofNat 0 = c := Int32.add_zero c
end Cnt
section Ite
variable {P : Prog} {m pc : Nat} {L : List Slot} {S : List Value} {k n : Nat} {H : AH} {Q : Option Value → AH → Prop} {c : Prop} [Decidable c]
theorem W_ite {x y : Int32} : (if c then W P m pc L (.int x :: S) k n H Q else W P m pc L (.int y :: S) k n H Q) ↔ W P m pc L (.int (if c then x else y) :: S) k n H Q := by
  by_cases h : c <;> simp [h]
theorem W_iteJ {x y : Int64} : (if c then W P m pc L (.long x :: S) k n H Q else W P m pc L (.long y :: S) k n H Q) ↔ W P m pc L (.long (if c then x else y) :: S) k n H Q := by
  by_cases h : c <;> simp [h]
end Ite
end Jvm.JX

namespace Jvm.JX
open Sem ClassFile Op Lib
section Forget
variable {P : Prog} {m pc len k n i : Nat} {aux : Int} {ins : Instr} {L L' M : List Slot} {S : List Value} {H : AH} {v : Value} {Q : Option Value → AH → Prop}
def lel (L L' : List Slot) : Prop := ∀ i : Nat, L[i]? = L'[i]? ∨ (L[i]? = some .unset ∧ ∃ o, L'[i]? = some o ∧ cat1 o = true)
theorem lel_refl : lel L L := fun _ => Or.inl rfl
theorem lel_cons {a : Slot} (h : lel L L') : lel (a :: L) (a :: L') := fun i => by cases i with
  | zero => exact Or.inl rfl
  | succ i => simpa using h i
theorem lel_un {o : Slot} (ho : cat1 o = true) (h : lel L L') : lel (.unset :: L) (o :: L') := fun i => by cases i with
  | zero => exact Or.inr ⟨rfl, o, rfl, ho⟩
  | succ i => simpa using h i
theorem lel_len (h : lel L L') : L.length = L'.length := by
  rcases Nat.lt_trichotomy L.length L'.length with g | g | g
  · have h1 : L[L.length]? = none := List.getElem?_eq_none (Nat.le_refl _)
    rcases h L.length with e | ⟨e, -⟩
    · rw [h1] at e; have := List.getElem?_eq_none_iff.mp e.symm; omega
    · rw [h1] at e; cases e
  · exact g
  · have h1 : L'[L'.length]? = none := List.getElem?_eq_none (Nat.le_refl _)
    rcases h L'.length with e | ⟨-, o, e, -⟩
    · rw [h1] at e; have := List.getElem?_eq_none_iff.mp e; omega
    · rw [h1] at e; cases e
theorem lel_set {a : Slot} (h : lel L L') : lel (L.set i a) (L'.set i a) := fun j => by
  rw [List.getElem?_set, List.getElem?_set, lel_len h]
  by_cases e : i = j
  · rw [if_pos e, if_pos e]; exact Or.inl rfl
  · rw [if_neg e, if_neg e]; exact h j
theorem ldI_le (h : lel L L') (e : ldI L i = some v) : ldI L' i = some v := by
  unfold ldI at *; rcases h i with g | ⟨g, -⟩
  · rw [← g]; exact e
  · rw [g] at e; cases e
theorem ldJ_le (h : lel L L') (e : ldJ L i = some v) : ldJ L' i = some v := by
  unfold ldJ at *; rcases h i with g | ⟨g, -⟩
  · rw [← g]; exact e
  · rw [g] at e; cases e
theorem ldR_le (h : lel L L') (e : ldR L i = some v) : ldR L' i = some v := by
  unfold ldR at *; rcases h i with g | ⟨g, -⟩
  · rw [← g]; exact e
  · rw [g] at e; cases e
theorem stl_le (h : lel L L') (e : stl L i v = some M) : ∃ M', stl L' i v = some M' ∧ lel M M' := by
  unfold stl at *
  rcases h i with g | ⟨g, o, g', ho⟩
  · rw [← g, ← lel_len h]
    revert e; generalize L[i]? = x; intro e
    match x, e with
    | some .unset, e => cases e; exact ⟨_, rfl, lel_set h⟩
    | some (.val w), e =>
      simp only at e ⊢
      by_cases c : w.category = 1
      · simp only [c, if_true] at e ⊢; cases e; exact ⟨_, rfl, lel_set h⟩
      · simp only [c, if_false] at e ⊢
        by_cases d : i + 1 < L.length
        · simp only [d, if_true] at e ⊢; cases e; exact ⟨_, rfl, lel_set (lel_set h)⟩
        · simp only [d, if_false] at e; cases e
    | some .second, e =>
      simp only at e ⊢
      by_cases d : 1 ≤ i
      · simp only [d, if_true] at e ⊢; cases e; exact ⟨_, rfl, lel_set (lel_set h)⟩
      · simp only [d, if_false] at e; cases e
    | none, e => cases e
  · rw [g] at e; cases e; rw [g']
    match o, ho with
    | .unset, _ => exact ⟨_, rfl, lel_set h⟩
    | .val w, ho =>
      have c : w.category = 1 := by simpa [cat1] using ho
      simp only [c, if_true]; exact ⟨_, rfl, lel_set h⟩
theorem lng_cat {o : Slot} (h : lng o = true) : cat1 o = false := by
  cases o with
  | unset => cases h
  | second => cases h
  | val v => simp only [lng, beq_iff_eq] at h; simp [cat1, h]
theorem stL_le (h : lel L L') (e : stL L i v = some M) : ∃ M', stL L' i v = some M' ∧ lel M M' := by
  have key : ∀ o2, L[i + 1]? = some o2 → ∃ o3, L'[i + 1]? = some o3 ∧ (cat1 o2 = true → cat1 o3 = true) ∧ (cat1 o2 = false → o3 = o2) := by
    intro o2 e2
    rcases h (i + 1) with g | ⟨g, o, g', ho⟩
    · exact ⟨o2, by rw [← g]; exact e2, id, fun _ => rfl⟩
    · exact ⟨o, g', fun _ => ho, fun z => by rw [e2] at g; cases g; cases z⟩
  unfold stL at *
  have hs : lel ((L.set i (.val v)).set (i + 1) .second) ((L'.set i (.val v)).set (i + 1) .second) := lel_set (lel_set h)
  have hs3 : lel (((L.set i (.val v)).set (i + 2) .unset).set (i + 1) .second) (((L'.set i (.val v)).set (i + 2) .unset).set (i + 1) .second) := lel_set (lel_set (lel_set h))
  cases e2 : L[i + 1]? with
  | none => rw [e2] at e; revert e; cases L[i]? with
    | none => intro e; cases e
    | some o => intro e; cases o <;> cases e
  | some o2 =>
    obtain ⟨o3, g3, c3, c4⟩ := key o2 e2
    rw [e2] at e; rw [g3, ← lel_len h]
    rcases h i with g | ⟨g, o, g', ho⟩
    · rw [← g]
      revert e; generalize L[i]? = x; intro e
      match x, e with
      | some .unset, e =>
        simp only at e ⊢
        by_cases c : cat1 o2 = true
        · simp only [c, if_true] at e; cases e; simp only [c3 c, if_true]; exact ⟨_, rfl, hs⟩
        · rw [if_neg c] at e
          have c' : cat1 o2 = false := by simpa using c
          rw [c4 c', if_neg c]
          by_cases l3 : lng o2 = true ∧ i + 2 < L.length
          · rw [if_pos l3] at e; cases e; rw [if_pos l3]; exact ⟨_, rfl, hs3⟩
          · rw [if_neg l3] at e; cases e
      | some (.val w), e =>
        simp only at e ⊢
        by_cases d : w.category = 2
        · simp only [d, if_true] at e ⊢; cases e; exact ⟨_, rfl, hs⟩
        · rw [if_neg d] at e ⊢
          by_cases c : cat1 o2 = true
          · simp only [c, if_true] at e; cases e; simp only [c3 c, if_true]; exact ⟨_, rfl, hs⟩
          · rw [if_neg c] at e
            have c' : cat1 o2 = false := by simpa using c
            rw [c4 c', if_neg c]
            by_cases l3 : lng o2 = true ∧ i + 2 < L.length
            · rw [if_pos l3] at e; cases e; rw [if_pos l3]; exact ⟨_, rfl, hs3⟩
            · rw [if_neg l3] at e; cases e
      | some .second, e =>
        simp only at e ⊢
        by_cases d : 1 ≤ i
        · rw [if_pos d] at e ⊢
          by_cases c : cat1 o2 = true
          · rw [if_pos c] at e; cases e; rw [if_pos (c3 c)]; exact ⟨_, rfl, lel_set (lel_set (lel_set h))⟩
          · rw [if_neg c] at e
            have c' : cat1 o2 = false := by simpa using c
            rw [c4 c', if_neg c]
            by_cases l3 : lng o2 = true ∧ i + 2 < L.length
            · rw [if_pos l3] at e; cases e; rw [if_pos l3]; exact ⟨_, rfl, lel_set (lel_set (lel_set (lel_set h)))⟩
            · rw [if_neg l3] at e; cases e
        · rw [if_neg d] at e; cases e
      | none, e => cases e
    · rw [g] at e; rw [g']
      simp only at e
      by_cases c : cat1 o2 = true
      · simp only [c, if_true] at e; cases e
        match o, ho with
        | .unset, _ => simp only [c3 c, if_true]; exact ⟨_, rfl, hs⟩
        | .val w, ho =>
          by_cases d : w.category = 2
          · simp only [d, if_true]; exact ⟨_, rfl, hs⟩
          · simp only [d, if_false, c3 c, if_true]; exact ⟨_, rfl, hs⟩
      · rw [if_neg c] at e
        have c' : cat1 o2 = false := by simpa using c
        rw [c4 c']
        by_cases l3 : lng o2 = true ∧ i + 2 < L.length
        · rw [if_pos l3] at e; cases e
          match o, ho with
          | .unset, _ => simp only [if_neg c, if_pos l3]; exact ⟨_, rfl, hs3⟩
          | .val w, ho =>
            have d : ¬ w.category = 2 := by simp only [cat1, beq_iff_eq] at ho; omega
            simp only [if_neg d, if_neg c, if_pos l3]; exact ⟨_, rfl, hs3⟩
        · rw [if_neg l3] at e; cases e
def loc : Instr → Bool
  | .iload _ | .iload_n _ | .lload _ | .lload_n _ | .aload _ | .aload_n _ | .istore _ | .istore_n _ | .astore _ | .astore_n _ | .lstore _ | .lstore_n _ | .iinc _ _ => true
  | _ => false
theorem stp_fr {q : Fm} (hl : loc ins = false) (e : stp P m ins len aux pc L S k n H = some q) : q.2.1 = L ∧ stp P m ins len aux pc L' S k n H = some (q.1, L', q.2.2) := by
  cases ins <;> first
    | (cases hl; done)
    | (simp only [stp] at e ⊢; cases e; done)
    | (simp only [stp] at e ⊢; cases e; exact ⟨rfl, rfl⟩)
    | (simp only [stp, Option.map_eq_some_iff] at e ⊢; (repeat' split at e) <;> first
        | (cases e; done)
        | (cases e; exact ⟨rfl, rfl⟩)
        | (obtain ⟨w, h1, h2⟩ := e; subst h2; exact ⟨rfl, w, h1, rfl⟩)
        | (simp_all; done)
        | (simp_all; subst e; simp; done)
        | (simp_all; obtain ⟨e1, e2, e3⟩ := e; subst e3; simp_all; done)
        | (simp only [Option.bind_eq_some_iff, Option.map_eq_some_iff] at e; obtain ⟨w, h1, u, h2, h3⟩ := e; subst h3; simp_all; done)
        | (simp only [Option.bind_eq_some_iff, Option.map_eq_some_iff] at e; obtain ⟨w, h1, u, h2, h3⟩ := e; subst h3; simp_all; omega))
theorem stp_le {q : Fm} (h : lel L L') (e : stp P m ins len aux pc L S k n H = some q) : ∃ M, stp P m ins len aux pc L' S k n H = some (q.1, M, q.2.2) ∧ lel q.2.1 M := by
  cases hl : loc ins with
  | false =>
    obtain ⟨h1, h2⟩ := stp_fr (L' := L') hl e
    exact ⟨L', h2, by rw [h1]; exact h⟩
  | true =>
    cases ins <;> first
      | (cases hl; done)
      | (simp only [stp, Option.map_eq_some_iff] at e ⊢; obtain ⟨w, h1, h2⟩ := e; subst h2; first
          | exact ⟨L', ⟨w, ldI_le h h1, rfl⟩, h⟩
          | exact ⟨L', ⟨w, ldJ_le h h1, rfl⟩, h⟩
          | exact ⟨L', ⟨w, ldR_le h h1, rfl⟩, h⟩)
      | (simp only [stp] at e ⊢; split at e
         · simp only [Option.map_eq_some_iff] at e ⊢
           obtain ⟨w, h1, h2⟩ := e; subst h2
           first
            | (obtain ⟨M, g1, g2⟩ := stl_le h h1; exact ⟨M, ⟨M, g1, rfl⟩, g2⟩)
            | (obtain ⟨M, g1, g2⟩ := stL_le h h1; exact ⟨M, ⟨M, g1, rfl⟩, g2⟩)
         · cases e)
      | (simp only [stp] at e ⊢; rename_i i c; rcases h i with g | ⟨g, -⟩
         · rw [← g]; revert e; generalize L[i]? = x; intro e
           split at e
           · cases e; exact ⟨_, rfl, lel_set h⟩
           · cases e
         · rw [g] at e; cases e)
theorem run_fg : ∀ (f m pc : Nat) (L L' : List Slot) (S : List Value) (k n : Nat) (H : AH) (r : Option Value × AH), lel L L' → run P f m pc L S k n H = some r → run P f m pc L' S k n H = some r
  | 0, _, _, _, _, _, _, _, _, _, _, e => by cases e
  | f + 1, m, pc, L, L', S, k, n, H, r, h, e => by
    unfold run at e ⊢
    cases hd : P.1 m pc with
    | none => rw [hd] at e; cases e
    | some d =>
      rw [hd] at e; simp only at e ⊢
      cases hr : ret P m d.1 S with
      | some v => rw [hr] at e; exact e
      | none =>
        rw [hr] at e; simp only at e ⊢
        cases hc : cal P m d.1 d.2.2 S k n H with
        | some c =>
          rw [hc] at e; simp only at e ⊢
          cases hx : run P f c.1 0 (ent P c.1 c.2.1) [] 0 0 H with
          | none => rw [hx] at e; cases e
          | some y => rw [hx] at e; simp only at e ⊢; exact run_fg f _ _ _ _ _ _ _ _ _ h e
        | none =>
          rw [hc] at e; simp only at e ⊢
          cases hs : stp P m d.1 d.2.1 d.2.2 pc L S k n H with
          | none => rw [hs] at e; cases e
          | some q =>
            rw [hs] at e; simp only at e
            obtain ⟨M, g1, g2⟩ := stp_le h hs
            rw [g1]; exact run_fg f _ _ _ _ _ _ _ _ _ g2 e
theorem W_fg (h : lel L L') (w : W P m pc L S k n H Q) : W P m pc L' S k n H Q := by
  obtain ⟨f, v, H', e, q⟩ := w
  exact ⟨f, v, H', run_fg f m pc L L' S k n H _ h e, q⟩
end Forget
section ForgetL
variable {P : Prog} {m pc len k n i j : Nat} {aux : Int} {ins : Instr} {L M N : List Slot} {S : List Value} {H : AH} {v : Value} {a : Slot} {Q : Option Value → AH → Prop}
def ff (j : Nat) (M : List Slot) : List Slot := (M.set j .unset).set (j + 1) .unset
def Gl (j : Nat) (M : List Slot) : Prop := (∃ w : Value, M[j]? = some (.val w) ∧ w.category = 2) ∧ M[j + 1]? = some .second ∧ (∀ i o, i + 1 = j → M[i]? = some o → lng o = false) ∧ M[j + 2]? ≠ some .second
def lfr (j : Nat) (L M : List Slot) : Prop := L = M ∨ (L = ff j M ∧ Gl j M)
theorem ff_set (h1 : i ≠ j) (h2 : i ≠ j + 1) : (ff j M).set i a = ff j (M.set i a) := by
  unfold ff; rw [List.set_comm _ _ (Ne.symm h2), List.set_comm _ _ (Ne.symm h1)]
theorem ff_get (h1 : i ≠ j) (h2 : i ≠ j + 1) : (ff j M)[i]? = M[i]? := by
  unfold ff; rw [List.getElem?_set_ne (Ne.symm h2), List.getElem?_set_ne (Ne.symm h1)]
theorem ff_len : (ff j M).length = M.length := by simp [ff]
theorem Gl_set (h : Gl j M) (h1 : i ≠ j) (h2 : i ≠ j + 1) (h3 : i + 1 = j → lng a = false) (h4 : i = j + 2 → a ≠ .second) : Gl j (M.set i a) := by
  obtain ⟨⟨w, g1, g2⟩, g3, g4, g5⟩ := h
  refine ⟨⟨w, ?_, g2⟩, ?_, ?_, ?_⟩
  · rw [List.getElem?_set_ne h1]; exact g1
  · rw [List.getElem?_set_ne h2]; exact g3
  · intro i' o e h
    by_cases c : i = i'
    · subst c
      rw [List.getElem?_set] at h
      simp only [if_true] at h
      split at h
      · cases h; exact h3 e
      · cases h
    · rw [List.getElem?_set_ne c] at h; exact g4 i' o e h
  · by_cases c : i = j + 2
    · rw [List.getElem?_set]; simp only [c, if_true]
      split
      · intro e; cases e; exact h4 c rfl
      · intro e; cases e
    · rw [List.getElem?_set_ne c]; exact g5
theorem Gl_lt (h : Gl j M) : j + 1 < M.length := (List.getElem?_eq_some_iff.mp h.2.1).1
theorem ff_j (h : Gl j M) : (ff j M)[j]? = some .unset ∧ (ff j M)[j + 1]? = some .unset := by
  have := Gl_lt h
  unfold ff; constructor
  · rw [List.getElem?_set_ne (by omega), List.getElem?_set]; simp only [if_true]; rw [if_pos (by omega)]
  · rw [List.getElem?_set]; simp only [if_true, List.length_set]; rw [if_pos (by omega)]
theorem ff_0 {b : Slot} : (ff j M).set j b = (M.set (j + 1) .unset).set j b := by
  unfold ff; rw [List.set_comm _ _ (by omega : j ≠ j + 1), List.set_set]
theorem ff_1 {b : Slot} : (ff j M).set (j + 1) b = (M.set j .unset).set (j + 1) b := by
  unfold ff; rw [List.set_set]
theorem stl_fr (hv : v.category = 1) (h : lfr j L M) (e : stl L i v = some N) : ∃ N', stl M i v = some N' ∧ lfr j N N' := by
  rcases h with rfl | ⟨rfl, h⟩
  · exact ⟨N, e, Or.inl rfl⟩
  have lv : lng (.val v) = false := by simp [lng, hv]
  obtain ⟨⟨w, g1, g2⟩, g3, g4, g5⟩ := id h
  have hl := Gl_lt h
  unfold stl at e ⊢
  by_cases c1 : i = j
  · subst c1
    rw [(ff_j h).1] at e; cases e
    rw [g1]; simp only [g2, hl, if_true]
    exact ⟨_, rfl, Or.inl ff_0⟩
  by_cases c2 : i = j + 1
  · subst c2
    rw [(ff_j h).2] at e; cases e
    rw [g3]; simp only [Nat.le_add_left, if_true]
    exact ⟨_, rfl, Or.inl ff_1⟩
  rw [ff_get c1 c2, ff_len] at e
  revert e; cases hx : M[i]? with
  | none => intro e; cases e
  | some o =>
    intro e
    have s1 : ∀ {M}, Gl j M → Gl j (M.set i (.val v)) := fun h => Gl_set h c1 c2 (fun _ => lv) (fun _ => by intro z; cases z)
    cases o with
    | unset => cases e; exact ⟨_, rfl, Or.inr ⟨ff_set c1 c2, s1 h⟩⟩
    | second =>
      simp only at e ⊢
      by_cases d : 1 ≤ i
      · rw [if_pos d] at e ⊢; cases e
        have c3 : i - 1 ≠ j := by omega
        have c4 : i - 1 ≠ j + 1 := by intro z; exact g5 (by rw [← hx]; congr 1; omega)
        exact ⟨_, rfl, Or.inr ⟨by rw [ff_set c3 c4, ff_set c1 c2], s1 (Gl_set h c3 c4 (fun _ => rfl) (fun _ => by intro z; cases z))⟩⟩
      · rw [if_neg d] at e; cases e
    | val x =>
      simp only at e ⊢
      by_cases d : x.category = 1
      · rw [if_pos d] at e ⊢; cases e; exact ⟨_, rfl, Or.inr ⟨ff_set c1 c2, s1 h⟩⟩
      · rw [if_neg d] at e ⊢
        by_cases d2 : i + 1 < M.length
        · rw [if_pos d2] at e ⊢; cases e
          have d3 : x.category = 2 := by cases x <;> simp [Value.category] at d ⊢
          have c3 : i + 1 ≠ j := by intro z; have := g4 i _ z hx; simp [lng, d3] at this
          exact ⟨_, rfl, Or.inr ⟨by rw [ff_set c3 (by omega), ff_set c1 c2], s1 (Gl_set h c3 (by omega) (fun _ => rfl) (fun _ => by intro z; cases z))⟩⟩
        · rw [if_neg d2] at e; cases e
theorem stL_fr (h : lfr j L M) (e : stL L i v = some N) : ∃ N', stL M i v = some N' ∧ lfr j N N' := by
  rcases h with rfl | ⟨rfl, h⟩
  · exact ⟨N, e, Or.inl rfl⟩
  obtain ⟨⟨w, g1, g2⟩, g3, g4, g5⟩ := id h
  have hl := Gl_lt h
  unfold stL at e ⊢
  by_cases c1 : i = j
  · subst c1
    rw [(ff_j h).1, (ff_j h).2] at e; simp only [cat1, if_true] at e; cases e
    rw [g1, g3]; simp only [g2, if_true]
    exact ⟨_, rfl, Or.inl (by rw [ff_0, List.set_comm _ _ (by omega : i + 1 ≠ i), List.set_set])⟩
  by_cases c2 : i = j + 1
  · subst c2
    rw [(ff_j h).2, ff_get (i := j + 1 + 1) (by omega) (by omega), ff_len, ff_1] at e
    rw [g3]
    revert e; cases hy : M[j + 1 + 1]? with
    | none => intro e; cases e
    | some o2 =>
      intro e; simp only [Nat.le_add_left, if_true, Nat.add_sub_cancel] at e ⊢
      exact ⟨N, e, Or.inl rfl⟩
  by_cases c3 : i + 1 = j
  · subst c3
    rw [ff_get c1 c2, (ff_j h).1] at e
    rw [g1]
    have w1 : ¬ cat1 (.val w) = true := by simp [cat1, g2]
    have w2 : lng (.val w) = true ∧ i + 2 < M.length := ⟨by simp [lng, g2], hl⟩
    have en : ∀ b : Slot, ((ff (i + 1) M).set i b).set (i + 1) .second = ((M.set i b).set (i + 2) .unset).set (i + 1) .second := fun b => by
      rw [ff_set (by omega) (by omega), ff_0]
    revert e; cases hx : M[i]? with
    | none => intro e; cases e
    | some o =>
      intro e
      have lo := g4 i o rfl hx
      cases o with
      | unset => simp only [cat1, if_true] at e; cases e; simp only [if_neg w1, if_pos w2]; exact ⟨_, rfl, Or.inl (en _)⟩
      | val x =>
        have x2 : ¬ x.category = 2 := by simpa [lng] using lo
        simp only [cat1, if_true, if_neg x2] at e; cases e; simp only [if_neg w1, if_pos w2, if_neg x2]; exact ⟨_, rfl, Or.inl (en _)⟩
      | second =>
        simp only [cat1, if_true] at e
        by_cases d : 1 ≤ i
        · simp only [if_pos d, if_neg w1, if_pos w2] at e ⊢; cases e
          exact ⟨_, rfl, Or.inl (by rw [ff_set (by omega) (by omega), ff_set (by omega) (by omega), ff_0])⟩
        · rw [if_neg d] at e; cases e
  rw [ff_get c1 c2, ff_get (i := i + 1) c3 (by omega), ff_len] at e
  revert e; cases hx : M[i]? with
  | none => intro e; cases e
  | some o =>
    cases hy : M[i + 1]? with
    | none => intro e; cases o <;> cases e
    | some o2 =>
      intro e
      have s1 : ∀ {M}, Gl j M → Gl j (M.set i (.val v)) := fun h => Gl_set h c1 c2 (fun z => absurd z c3) (fun _ => by intro z; cases z)
      have s2 : ∀ {M}, Gl j M → Gl j (M.set (i + 1) .second) := fun h => Gl_set h c3 (by omega) (fun _ => rfl) (fun z => absurd z (by omega))
      have f1 : ∀ {M : List Slot}, (ff j M).set i (.val v) = ff j (M.set i (.val v)) := ff_set c1 c2
      have f2 : ∀ {M : List Slot}, (ff j M).set (i + 1) .second = ff j (M.set (i + 1) .second) := ff_set c3 (by omega)
      have t3 : lng o2 = true → i + 2 ≠ j := fun l z => by have := g4 (i + 1) o2 (by omega) hy; rw [l] at this; cases this
      have s3 : lng o2 = true → ∀ {M}, Gl j M → Gl j (M.set (i + 2) .unset) := fun l _ h => Gl_set h (t3 l) (by omega) (fun _ => rfl) (fun _ => by intro z; cases z)
      have f3 : lng o2 = true → ∀ {M : List Slot}, (ff j M).set (i + 2) .unset = ff j (M.set (i + 2) .unset) := fun l _ => ff_set (t3 l) (by omega)
      cases o with
      | unset =>
        simp only at e ⊢
        by_cases c : cat1 o2 = true
        · rw [if_pos c] at e ⊢; cases e; exact ⟨_, rfl, Or.inr ⟨by rw [f1, f2], s2 (s1 h)⟩⟩
        · rw [if_neg c] at e ⊢
          by_cases l : lng o2 = true ∧ i + 2 < M.length
          · rw [if_pos l] at e ⊢; cases e; exact ⟨_, rfl, Or.inr ⟨by rw [f1, f3 l.1, f2], s2 (s3 l.1 (s1 h))⟩⟩
          · rw [if_neg l] at e; cases e
      | val x =>
        simp only at e ⊢
        by_cases d : x.category = 2
        · rw [if_pos d] at e ⊢; cases e; exact ⟨_, rfl, Or.inr ⟨by rw [f1, f2], s2 (s1 h)⟩⟩
        rw [if_neg d] at e ⊢
        by_cases c : cat1 o2 = true
        · rw [if_pos c] at e ⊢; cases e; exact ⟨_, rfl, Or.inr ⟨by rw [f1, f2], s2 (s1 h)⟩⟩
        · rw [if_neg c] at e ⊢
          by_cases l : lng o2 = true ∧ i + 2 < M.length
          · rw [if_pos l] at e ⊢; cases e; exact ⟨_, rfl, Or.inr ⟨by rw [f1, f3 l.1, f2], s2 (s3 l.1 (s1 h))⟩⟩
          · rw [if_neg l] at e; cases e
      | second =>
        simp only at e ⊢
        by_cases d : 1 ≤ i
        · rw [if_pos d] at e ⊢
          have t0 : i - 1 ≠ j := by omega
          have t1 : i - 1 ≠ j + 1 := by intro z; exact g5 (by rw [← hx]; congr 1; omega)
          have f0 : (ff j M).set (i - 1) .unset = ff j (M.set (i - 1) .unset) := ff_set t0 t1
          have s0 : Gl j (M.set (i - 1) .unset) := Gl_set h t0 t1 (fun _ => rfl) (fun _ => by intro z; cases z)
          by_cases c : cat1 o2 = true
          · rw [if_pos c] at e ⊢; cases e; exact ⟨_, rfl, Or.inr ⟨by rw [f0, f1, f2], s2 (s1 s0)⟩⟩
          · rw [if_neg c] at e ⊢
            by_cases l : lng o2 = true ∧ i + 2 < M.length
            · rw [if_pos l] at e ⊢; cases e; exact ⟨_, rfl, Or.inr ⟨by rw [f0, f1, f3 l.1, f2], s2 (s3 l.1 (s1 s0))⟩⟩
            · rw [if_neg l] at e; cases e
        · rw [if_neg d] at e; cases e
theorem get_fr {o : Slot} (h : lfr j L M) (e : L[i]? = some o) (ho : o ≠ .unset) : M[i]? = some o := by
  rcases h with rfl | ⟨rfl, h⟩
  · exact e
  by_cases c1 : i = j
  · subst c1; rw [(ff_j h).1] at e; cases e; exact absurd rfl ho
  by_cases c2 : i = j + 1
  · subst c2; rw [(ff_j h).2] at e; cases e; exact absurd rfl ho
  rw [ff_get c1 c2] at e; exact e
theorem ldI_fr (h : lfr j L M) (e : ldI L i = some v) : ldI M i = some v := by
  unfold ldI at *
  split at e
  · rename_i g; rw [get_fr h g (by intro z; cases z)]; exact e
  · cases e
theorem ldJ_fr (h : lfr j L M) (e : ldJ L i = some v) : ldJ M i = some v := by
  unfold ldJ at *
  split at e
  · rename_i g; rw [get_fr h g (by intro z; cases z)]; exact e
  · cases e
theorem ldR_fr (h : lfr j L M) (e : ldR L i = some v) : ldR M i = some v := by
  unfold ldR at *
  split at e
  · rename_i g; rw [get_fr h g (by intro z; cases z)]; exact e
  · cases e
theorem inc_fr {x : Int32} {b : Value} (hb : b.category = 1) (h : lfr j L M) (e : L[i]? = some (.val (.int x))) : lfr j (L.set i (.val b)) (M.set i (.val b)) := by
  have e' := get_fr h e (by intro z; cases z)
  rcases h with rfl | ⟨rfl, h⟩
  · exact Or.inl rfl
  have c1 : i ≠ j := by intro z; subst z; rw [(ff_j h).1] at e; cases e
  have c2 : i ≠ j + 1 := by intro z; subst z; rw [(ff_j h).2] at e; cases e
  exact Or.inr ⟨ff_set c1 c2, Gl_set h c1 c2 (fun _ => by simp [lng, hb]) (fun _ => by intro z; cases z)⟩
theorem stp_fl {q : Fm} (h : lfr j L M) (e : stp P m ins len aux pc L S k n H = some q) : ∃ M', stp P m ins len aux pc M S k n H = some (q.1, M', q.2.2) ∧ lfr j q.2.1 M' := by
  cases hl : loc ins with
  | false =>
    obtain ⟨h1, h2⟩ := stp_fr (L' := M) hl e
    exact ⟨M, h2, by rw [h1]; exact h⟩
  | true =>
    cases ins <;> first
      | (cases hl; done)
      | (simp only [stp, Option.map_eq_some_iff] at e ⊢; obtain ⟨w, h1, h2⟩ := e; subst h2; first
          | exact ⟨M, ⟨w, ldI_fr h h1, rfl⟩, h⟩
          | exact ⟨M, ⟨w, ldJ_fr h h1, rfl⟩, h⟩
          | exact ⟨M, ⟨w, ldR_fr h h1, rfl⟩, h⟩)
      | (simp only [stp] at e ⊢; split at e
         · simp only [Option.map_eq_some_iff] at e ⊢
           obtain ⟨w, h1, h2⟩ := e; subst h2
           first
            | (obtain ⟨M, g1, g2⟩ := stl_fr rfl h h1; exact ⟨M, ⟨M, g1, rfl⟩, g2⟩)
            | (obtain ⟨M, g1, g2⟩ := stL_fr h h1; exact ⟨M, ⟨M, g1, rfl⟩, g2⟩)
         · cases e)
      | (simp only [stp] at e ⊢; rename_i i c
         revert e; cases hx : L[i]? with
         | none => intro e; cases e
         | some o =>
           intro e
           split at e
           · rename_i x g; cases g
             rw [get_fr h hx (by intro z; cases z)]
             cases e; exact ⟨_, rfl, inc_fr rfl h hx⟩
           · cases e)
theorem run_fl : ∀ (f m pc : Nat) (L L' : List Slot) (S : List Value) (k n : Nat) (H : AH) (r : Option Value × AH), lfr j L L' → run P f m pc L S k n H = some r → run P f m pc L' S k n H = some r
  | 0, _, _, _, _, _, _, _, _, _, _, e => by cases e
  | f + 1, m, pc, L, L', S, k, n, H, r, h, e => by
    unfold run at e ⊢
    cases hd : P.1 m pc with
    | none => rw [hd] at e; cases e
    | some d =>
      rw [hd] at e; simp only at e ⊢
      cases hr : ret P m d.1 S with
      | some v => rw [hr] at e; exact e
      | none =>
        rw [hr] at e; simp only at e ⊢
        cases hc : cal P m d.1 d.2.2 S k n H with
        | some c =>
          rw [hc] at e; simp only at e ⊢
          cases hx : run P f c.1 0 (ent P c.1 c.2.1) [] 0 0 H with
          | none => rw [hx] at e; cases e
          | some y => rw [hx] at e; simp only at e ⊢; exact run_fl f _ _ _ _ _ _ _ _ _ h e
        | none =>
          rw [hc] at e; simp only at e ⊢
          cases hs : stp P m d.1 d.2.1 d.2.2 pc L S k n H with
          | none => rw [hs] at e; cases e
          | some q =>
            rw [hs] at e; simp only at e
            obtain ⟨M, g1, g2⟩ := stp_fl h hs
            rw [g1]; exact run_fl f _ _ _ _ _ _ _ _ _ g2 e
theorem W_fl (j : Nat) (h : Gl j L) (w : W P m pc (ff j L) S k n H Q) : W P m pc L S k n H Q := by
  obtain ⟨f, v, H', e, q⟩ := w
  exact ⟨f, v, H', run_fl f m pc _ L S k n H _ (Or.inr ⟨rfl, h⟩) e, q⟩
def wfb : List Slot → Bool
  | [] => true
  | .second :: _ => false
  | .unset :: L => wfb L
  | .val v :: L => if v.category = 2 then (match L with | .second :: L => wfb L | _ => false) else if v.category = 1 then wfb L else false
theorem lel_app : ∀ (A : List Slot) {C D : List Slot}, lel C D → lel (A ++ C) (A ++ D)
  | [], _, _, h => h
  | a :: A, _, _, h => lel_cons (lel_app A h)
theorem ff_app {A B : List Slot} {x y : Slot} : ff A.length (A ++ x :: y :: B) = A ++ .unset :: .unset :: B := by
  unfold ff
  rw [List.set_append_right _ _ (Nat.le_refl _), List.set_append_right _ _ (by omega)]
  simp
theorem wfb_hd {B : List Slot} (h : wfb B = true) : B[0]? ≠ some .second := by
  cases B with
  | nil => intro e; cases e
  | cons b B => intro e; cases b <;> cases e; cases h
theorem W_fB : ∀ (c : Nat) (A B : List Slot), B.length ≤ c → wfb B = true → (∀ i o, i + 1 = A.length → A[i]? = some o → lng o = false) → W P m pc (A ++ B.map fun _ => .unset) S k n H Q → W P m pc (A ++ B) S k n H Q
  | 0, A, B, hc, hw, ha, w => by
    have : B = [] := List.eq_nil_of_length_eq_zero (by omega)
    subst this; exact w
  | c + 1, A, [], hc, hw, ha, w => w
  | c + 1, A, .second :: B, hc, hw, ha, w => by cases hw
  | c + 1, A, .unset :: B, hc, hw, ha, w => by
    have := W_fB c (A ++ [.unset]) B (by simpa using hc) hw (fun i o e h => by
      rw [List.length_append, List.length_singleton] at e
      have : i = A.length := by omega
      subst this; rw [List.getElem?_concat_length] at h; cases h; rfl) (by simpa using w)
    simpa using this
  | c + 1, A, .val v :: B, hc, hw, ha, w => by
    by_cases d : v.category = 2
    · unfold wfb at hw; rw [if_pos d] at hw
      cases B with
      | nil => cases hw
      | cons b B =>
        cases b with
        | unset => cases hw
        | val u => cases hw
        | second =>
          simp only at hw
          refine W_fl A.length ⟨⟨v, by simp, d⟩, by simp, fun i o e h => ?_, ?_⟩ ?_
          · rw [List.getElem?_append_left (by omega)] at h; exact ha i o e h
          · have := wfb_hd hw
            rw [List.getElem?_append_right (by omega)]; simpa using this
          · rw [ff_app]
            have := W_fB c (A ++ [.unset, .unset]) B (by simp only [List.length_cons] at hc; omega) hw (fun i o e h => by
              rw [List.length_append] at e; simp only [List.length_cons, List.length_nil] at e
              have : i = A.length + 1 := by omega
              subst this; rw [List.getElem?_append_right (by omega)] at h; simp at h; subst h; rfl) (by simpa using w)
            simpa using this
    · have d1 : v.category = 1 := by cases v <;> simp [Value.category] at d ⊢
      unfold wfb at hw; rw [if_neg d, if_pos d1] at hw
      have := W_fB c (A ++ [.val v]) B (by simpa using hc) (by simpa using hw) (fun i o e h => by
        rw [List.length_append, List.length_singleton] at e
        have : i = A.length := by omega
        subst this; rw [List.getElem?_concat_length] at h; cases h; simp [lng, d1]) (by
          rw [List.append_assoc]
          refine W_fg (lel_app A ?_) w
          exact lel_un (by simp [cat1, d1]) lel_refl)
      simpa using this
def okf (c : Nat) (L : List Slot) : Bool := decide (c ≤ L.length) && (wfb (L.drop c) && (match c with | 0 => true | c + 1 => match L[c]? with | some o => !lng o | none => true))
theorem W_fa (c : Nat) (h : okf c L = true) (w : W P m pc (L.take c ++ (L.drop c).map fun _ => .unset) S k n H Q) : W P m pc L S k n H Q := by
  unfold okf at h; rw [Bool.and_eq_true, Bool.and_eq_true, decide_eq_true_eq] at h
  have := W_fB _ (L.take c) (L.drop c) (Nat.le_refl _) h.2.1 (fun i o e h' => by
    rw [List.length_take, Nat.min_eq_left h.1] at e; subst e
    rw [List.getElem?_take_of_lt (by omega)] at h'
    have h2 := h.2.2; simp only [h'] at h2; simpa using h2) w
  rwa [List.take_append_drop] at this
end ForgetL
section Ist
variable {P : Prog} {m pc len k n i : Nat} {aux : Int} {L : List Slot} {S : List Value} {H : AH} {Q : Option Value → AH → Prop} {x : Int32} {l : Int64}
theorem W_ist' (hd : P.1 m pc = some (.istore i, len, aux)) (h : L[i]? = some (.val (.long l))) (h2 : L[i + 1]? = some .second) : W P m pc L (.int x :: S) k n H Q ↔ W P m (pc + len) ((L.set (i + 1) .unset).set i (.val (.int x))) S k n H Q := W_s hd rfl rfl (by
  have := (List.getElem?_eq_some_iff.mp h2).1
  simp [stp, stl, h, Value.category, this])
theorem W_istn' {i : Fin 4} (hd : P.1 m pc = some (.istore_n i, len, aux)) (h : L[i.val]? = some (.val (.long l))) (h2 : L[i.val + 1]? = some .second) : W P m pc L (.int x :: S) k n H Q ↔ W P m (pc + len) ((L.set (i.val + 1) .unset).set i.val (.val (.int x))) S k n H Q := W_s hd rfl rfl (by
  have := (List.getElem?_eq_some_iff.mp h2).1
  simp [stp, stl, h, Value.category, this])
theorem W_lst2 {l' : Int64} {o : Slot} (hd : P.1 m pc = some (.lstore i, len, aux)) (h : L[i]? = some o) (ho : cat1 o = true) (h2 : L[i + 1]? = some (.val (.long l'))) (h3 : L[i + 2]? = some .second) : W P m pc L (.long l :: S) k n H Q ↔ W P m (pc + len) (((L.set i (.val (.long l))).set (i + 2) .unset).set (i + 1) .second) S k n H Q := W_s hd rfl rfl (by
  have hl := (List.getElem?_eq_some_iff.mp h3).1
  have e : stL L i (.long l) = some (((L.set i (.val (.long l))).set (i + 2) .unset).set (i + 1) .second) := by
    unfold stL; rw [h, h2]
    have c1 : ¬ cat1 (.val (.long l')) = true := by simp [cat1, Value.category]
    have c2 : lng (.val (.long l')) = true ∧ i + 2 < L.length := ⟨by simp [lng, Value.category], hl⟩
    match o, ho with
    | .unset, _ => simp only [if_neg c1, if_pos c2]
    | .val w, ho =>
      have d : ¬ w.category = 2 := by simp only [cat1, beq_iff_eq] at ho; omega
      simp only [if_neg d, if_neg c1, if_pos c2]
  simp [stp, e])
end Ist
section Num2
theorem nn32 {x : Int32} (h : 0 ≤ x.toInt) : x.toInt = (x.toBitVec.toNat : Int) ∧ x.toBitVec.toNat < 2147483648 := by
  have e : x.toInt = x.toBitVec.toInt := rfl
  rw [e, BitVec.toInt_eq_toNat_cond] at h ⊢
  have := x.toBitVec.isLt
  split at h
  · rename_i g; rw [if_pos g]; exact ⟨rfl, by omega⟩
  · omega
theorem of_nn {x : Int32} (h : x.toBitVec.toNat < 2147483648) : x.toInt = (x.toBitVec.toNat : Int) := by
  have e : x.toInt = x.toBitVec.toInt := rfl
  rw [e, BitVec.toInt_eq_toNat_cond, if_pos (by omega)]
theorem and_rg {x m : Int32} (h : 0 ≤ m.toInt) : 0 ≤ (x &&& m).toInt ∧ (x &&& m).toInt ≤ m.toInt := by
  obtain ⟨e, hm⟩ := nn32 h
  have h1 : (x &&& m).toBitVec.toNat ≤ m.toBitVec.toNat := by
    rw [Int32.toBitVec_and, BitVec.toNat_and]; exact Nat.and_le_right
  rw [of_nn (x := x &&& m) (by omega), e]; omega
theorem len32 {n : Nat} (h : n < 2147483648) : (n.toInt32).toInt = n := by
  rw [show n.toInt32 = Int32.ofNat n from rfl, Int32.toInt_ofNat_of_lt (by omega)]
end Num2
end Jvm.JX

namespace Jvm.JX
open Sem ClassFile Op Lib
theorem bitk (k : Int32) (h : 0 ≤ k.toInt ∧ k.toInt < 64) : ((1 : Int64) <<< (k.toInt64 &&& 63)).toBitVec = 1#64 <<< k.toInt.toNat := by
  have key : ∀ j : Fin 64, ((1 : Int64) <<< ((Int32.ofNat j.val).toInt64 &&& 63)).toBitVec = 1#64 <<< j.val := by decide +kernel
  have := key ⟨k.toInt.toNat, by omega⟩
  simp only at this
  rw [← this, show Int32.ofNat k.toInt.toNat = k by rw [eq32, Int32.toInt_ofNat_of_lt (by omega)]; omega]
theorem shl1 {κ i : Nat} (h : κ < 64) : (1#64 <<< κ).getLsbD i = decide (i = κ) := by
  rw [BitVec.getLsbD_shiftLeft, BitVec.getLsbD_one, Bool.eq_iff_iff]; simp; omega
theorem bit_and {P : Int64} (k : Int32) (h : 0 ≤ k.toInt ∧ k.toInt < 64) : P &&& ((1 : Int64) <<< (k.toInt64 &&& 63)) = 0 ↔ P.toBitVec.getLsbD k.toInt.toNat = false := by
  have hk : k.toInt.toNat < 64 := by omega
  rw [← Int64.toBitVec_inj, Int64.toBitVec_and, bitk k h]
  generalize k.toInt.toNat = κ at *
  constructor
  · intro e
    have := congrArg (fun v => v.getLsbD κ) e
    simp only [BitVec.getLsbD_and, shl1 hk, decide_true, Bool.and_true] at this
    rw [this]; simp
  · intro e
    apply BitVec.eq_of_getLsbD_eq
    intro i hi
    rw [BitVec.getLsbD_and, shl1 hk]
    by_cases g : i = κ
    · rw [g, e]; simp
    · simp [g]
theorem bit_or {P : Int64} (k : Int32) (h : 0 ≤ k.toInt ∧ k.toInt < 64) (i : Nat) : (P ||| ((1 : Int64) <<< (k.toInt64 &&& 63))).toBitVec.getLsbD i = (P.toBitVec.getLsbD i || decide (i = k.toInt.toNat)) := by
  rw [Int64.toBitVec_or, bitk k h, BitVec.getLsbD_or, shl1 (by omega)]
theorem rem_rg {x m : Int32} (hx : 0 ≤ x.toInt) (hm : 0 < m.toInt) : 0 ≤ (x % m).toInt ∧ (x % m).toInt < m.toInt := by
  rw [Int32.toInt_mod]
  exact ⟨Int.tmod_nonneg _ hx, Int.tmod_lt_of_pos _ hm⟩
theorem ushrL_or {P R : Int64} {y : Int32} : Jvm.Free.XT.ushrL (P ||| R) y = Jvm.Free.XT.ushrL P y ||| Jvm.Free.XT.ushrL R y := by
  unfold Jvm.Free.XT.ushrL
  apply Int64.toBitVec_inj.mp
  simp [BitVec.ushiftRight_or_distrib]
theorem ushrL_bv {P : Int64} {k : Int32} (h : 0 ≤ k.toInt ∧ k.toInt < 64) : (Jvm.Free.XT.ushrL P k).toBitVec = P.toBitVec >>> k.toInt.toNat := by
  have key : ∀ j : Fin 64, ((Int32.ofNat j.val).toInt64.toUInt64 &&& Int64.toUInt64 63) = UInt64.ofNat j.val := by decide +kernel
  have hk := key ⟨k.toInt.toNat, by omega⟩
  simp only at hk
  rw [show Int32.ofNat k.toInt.toNat = k by rw [eq32, Int32.toInt_ofNat_of_lt (by omega)]; omega] at hk
  unfold Jvm.Free.XT.ushrL
  rw [hk]
  have h64 : k.toInt.toNat < 64 := by omega
  generalize k.toInt.toNat = κ at *
  show (P.toUInt64 >>> UInt64.ofNat κ).toBitVec = _
  rw [UInt64.toBitVec_shiftRight]
  have e : (UInt64.ofNat κ).toBitVec % 64 = BitVec.ofNat 64 κ := by
    apply BitVec.eq_of_toNat_eq
    simp
    omega
  rw [e]
  apply BitVec.eq_of_toNat_eq
  simp
  rw [Nat.mod_eq_of_lt (by omega)]
theorem and1 {P : Int64} {k : Int32} (h : 0 ≤ k.toInt ∧ k.toInt < 64) : Jvm.Free.XT.ushrL P k &&& 1 = 0 ↔ P.toBitVec.getLsbD k.toInt.toNat = false := by
  rw [← Int64.toBitVec_inj, Int64.toBitVec_and, ushrL_bv h]
  generalize k.toInt.toNat = κ
  constructor
  · intro e
    have := congrArg (fun v => v.getLsbD 0) e
    simpa using this
  · intro e
    apply BitVec.eq_of_getLsbD_eq
    intro i hi
    rw [BitVec.getLsbD_and]
    by_cases g : i = 0
    · subst g; simp [e]
    · have : (1 : Int64).toBitVec.getLsbD i = false := by
        rw [show (1 : Int64).toBitVec = 1#64 from rfl, BitVec.getLsbD_one]; simp [g]
      rw [this]; simp
def G2 (P : Int64) (j : Int32) : Int64 := Jvm.Free.XT.ushrL P (2 * j) &&& 3
theorem G2_or {P R : Int64} {j : Int32} : G2 (P ||| R) j = G2 P j ||| G2 R j := by
  unfold G2; rw [ushrL_or]
  apply Int64.toBitVec_inj.mp
  simp only [Int64.toBitVec_and, Int64.toBitVec_or]
  apply BitVec.eq_of_getLsbD_eq
  intro i _
  simp only [BitVec.getLsbD_and, BitVec.getLsbD_or]
  cases (Jvm.Free.XT.ushrL P (2 * j)).toBitVec.getLsbD i <;> cases (Jvm.Free.XT.ushrL R (2 * j)).toBitVec.getLsbD i <;> simp
theorem G2_c {c i j : Int32} (hc : c = 0 ∨ c = 1 ∨ c = 2 ∨ c = 3) (hi : 0 ≤ i.toInt ∧ i.toInt < 8) (hj : 0 ≤ j.toInt ∧ j.toInt < 8) : G2 (c.toInt64 <<< ((2 * i).toInt64 &&& 63)) j = if i = j then c.toInt64 else 0 := by
  have key : ∀ (a : Fin 8) (b : Fin 8) (c : Fin 4), G2 ((Int32.ofNat c.val).toInt64 <<< ((2 * Int32.ofNat a.val).toInt64 &&& 63)) (Int32.ofNat b.val) = if Int32.ofNat a.val = Int32.ofNat b.val then (Int32.ofNat c.val).toInt64 else 0 := by decide +kernel
  have ei : Int32.ofNat i.toInt.toNat = i := by rw [eq32, Int32.toInt_ofNat_of_lt (by omega)]; omega
  have ej : Int32.ofNat j.toInt.toNat = j := by rw [eq32, Int32.toInt_ofNat_of_lt (by omega)]; omega
  have := fun c => key ⟨i.toInt.toNat, by omega⟩ ⟨j.toInt.toNat, by omega⟩ c
  simp only [ei, ej] at this
  rcases hc with rfl | rfl | rfl | rfl
  · exact this 0
  · exact this 1
  · exact this 2
  · exact this 3
theorem or0 {x : Int64} : x ||| 0 = x ∧ 0 ||| x = x := by
  constructor <;> (apply Int64.toBitVec_inj.mp; simp)
theorem c64 {c : Int32} (hc : c = 0 ∨ c = 1 ∨ c = 2 ∨ c = 3) : c.toInt64.toInt32 = c := by
  rcases hc with rfl | rfl | rfl | rfl <;> decide
end Jvm.JX

namespace Jvm.JX
open Sem ClassFile Op Lib Jvm.Stand Jvm.Free Jvm.LawKit Jvm.RoadKit
def CRel (C : String) (fn : Nat → String × String) (F : List Nat) (Z : State) (n0 : Nat) (h : Heap) (a : Nat) (c : Cel) : Prop :=
  (c.2.2.1 = true → n0 ≤ a) ∧
  match c.1 with
  | .object _ => Exa Z h a C ∧ ∀ k ∈ F, Fld Z h a C (fn k).1 (fn k).2 (c.2.2.2 k)
  | .array t => c.2.1 < 2 ^ 31 ∧ ∃ cl : Cell, Arr Z h a cl t ∧ cl.slots.size = c.2.1 ∧ ∀ i, i < c.2.1 → cl.slots[i]? = some (c.2.2.2 i)
  | _ => True
def RelH (C : String) (fn : Nat → String × String) (F : List Nat) (Z : State) (n0 : Nat) (h : Heap) (H : AH) : Prop := h.size = H.1 ∧ n0 ≤ H.1 ∧ ∀ a, CRel C fn F Z n0 h a (H.2 a)
def ilen2 : Instr → Nat → Nat
  | .tableswitch _ _ _ _, l => l
  | i, _ => ilen i
def RowOk (P : Prog) (tb : List Jvm.Cond) (C : String) (fn : Nat → String × String) (F : List Nat) (nsl : Nat) (nm : Nat → MethodName) (R : List Nat) (m : Nat) (ins : Instr) (aux : Int) : Prop :=
  match ins with
  | .getfield i => aux.toNat ∈ F ∧ Jvm.Cond.fieldLink (nm m).cls i C (fn aux.toNat).1 (fn aux.toNat).2 ∈ tb
  | .putfield i => aux.toNat ∈ F ∧ Jvm.Cond.fieldLink (nm m).cls i C (fn aux.toNat).1 (fn aux.toNat).2 ∈ tb ∧ (Jvm.Cond.lays C C (fn aux.toNat).1 (fn aux.toNat).2 ∈ tb ∨ (nm m).cls = C ∧ (nm m).name = "<init>")
  | .new i => aux.toNat = nsl ∧ Jvm.Cond.classLink (nm m).cls i C ∈ tb
  | .newarray t => Jvm.Cond.arrayClass (newarray.typeOf t) ∈ tb
  | .ldc i => Jvm.Cond.constant (nm m).cls i (Int32.ofInt aux) ∈ tb
  | .ldc2_w i => Jvm.Cond.constantLong (nm m).cls i (Int64.ofInt aux) ∈ tb
  | .invokevirtual i => aux.toNat ∈ R ∧ Jvm.Cond.methodLink (nm m).cls i (nm aux.toNat) ∈ tb
  | .invokestatic i => aux.toNat ∈ R ∧ Jvm.Cond.methodLink (nm m).cls i (nm aux.toNat) ∈ tb
  | .invokespecial i => (aux = -1 → Jvm.Cond.methodLink (nm m).cls i Lib.objectInit ∈ tb ∧ Jvm.Cond.instanceMethod Lib.objectInit ∈ tb ∧ Jvm.Cond.code Lib.objectInit ⟨#[0xb1]⟩ 1 none ∈ tb) ∧ (0 ≤ aux → aux.toNat ∈ R ∧ Jvm.Cond.methodLink (nm m).cls i (nm aux.toNat) ∈ tb)
  | _ => True
def CalOk (P : Prog) (tb : List Jvm.Cond) (C : String) (nm : Nat → MethodName) (bt : Nat → ByteArray) (m : Nat) : Prop :=
  Jvm.Cond.code (nm m) (bt m) (ml P m) (rt P m) ∈ tb ∧ Jvm.Cond.initialized (nm m).cls ∈ tb ∧ (∃ ps r, parseMethodDescriptor (nm m).desc = some ⟨ps, r⟩ ∧ ps.length + (if kd P m = 0 then 0 else 1) = na P m) ∧
  (kd P m = 0 → Jvm.Cond.static (nm m) ∈ tb) ∧
  (kd P m ≠ 0 → (nm m).cls = C ∧ Jvm.Cond.instanceMethod (nm m) ∈ tb) ∧
  (kd P m = 1 → Jvm.Cond.declares (nm m) ∈ tb ∧ Jvm.Cond.selects C (nm m) (nm m) ∈ tb) ∧
  (kd P m = 2 → Jvm.Cond.privateMethod (nm m) ∈ tb) ∧
  (kd P m = 3 → (nm m).name = "<init>" ∧ rt P m = none)
def Good (P : Prog) (tb : List Jvm.Cond) (C : String) (fn : Nat → String × String) (F : List Nat) (nsl : Nat) (nm : Nat → MethodName) (bt : Nat → ByteArray) (R : List Nat) (top : Nat) : Prop :=
  Jvm.Cond.instantiable C nsl ∈ tb ∧ Jvm.Cond.initialized C ∈ tb ∧
  (∀ k ∈ F, parseFieldDescriptor (fn k).2 = some (P.2.2.1 k) ∧ (Jvm.Cond.lays C C (fn k).1 (fn k).2 ∈ tb ∨ Jvm.Cond.laysFinal C C (fn k).1 (fn k).2 ∈ tb)) ∧
  (∀ j ∈ F, ∀ k ∈ F, (fn j).1 = (fn k).1 → j = k) ∧
  (∀ m ∈ R, plainName (nm m).cls = true ∧ ((nm m).cls ≠ "java/lang/invoke/MethodHandle" ∧ (nm m).cls ≠ "java/lang/invoke/VarHandle") ∧
    ∀ pc ins len aux, P.1 m pc = some (ins, len, aux) → decode (bt m) pc = .ok (ins, len) ∧ len = ilen2 ins len ∧ RowOk P tb C fn F nsl nm R m ins aux) ∧
  (∀ m ∈ R, m ≠ top → CalOk P tb C nm bt m) ∧
  (∀ m ∈ R, ∀ pc ins len aux, P.1 m pc = some (ins, len, aux) → aux = (top : Int) → kindOk ins (kd P top) = false)
section Rel
variable {C : String} {fn : Nat → String × String} {F : List Nat} {Z : State} {n0 : Nat} {h h' : Heap} {H : AH}
theorem RelH.obj (r : RelH C fn F Z n0 h H) {a : Nat} (ha : isO H a = true) : Exa Z h a C ∧ ∀ k ∈ F, Fld Z h a C (fn k).1 (fn k).2 (fld H a k) := by
  have q := (r.2.2 a).2
  unfold isO at ha
  cases hk : (H.2 a).1 <;> rw [hk] at ha <;> first | (cases ha; done) | (simp only [hk] at q; exact q)
theorem RelH.own (r : RelH C fn F Z n0 h H) {a : Nat} (ha : (H.2 a).2.2.1 = true) : n0 ≤ a := (r.2.2 a).1 ha
theorem RelH.arr (r : RelH C fn F Z n0 h H) {a : Nat} {t : FieldType} (ha : (H.2 a).1 = .array t) : (H.2 a).2.1 < 2 ^ 31 ∧ ∃ cl : Cell, Arr Z h a cl t ∧ cl.slots.size = (H.2 a).2.1 ∧ ∀ i, i < (H.2 a).2.1 → cl.slots[i]? = some ((H.2 a).2.2.2 i) := by
  have q := (r.2.2 a).2
  simp only [ha] at q; exact q
theorem RelH.ext (r : RelH C fn F Z n0 h H) (E : Ext h h') {c : Cel} (hs : h'.size = h.size + 1) (hc : CRel C fn F Z n0 h' h.size c) : RelH C fn F Z n0 h' (H.1 + 1, fun b => if b = H.1 then c else H.2 b) := by
  refine ⟨by rw [hs, r.1], Nat.le_succ_of_le r.2.1, fun a => ?_⟩
  by_cases e : a = H.1
  · subst e; simp only [if_true]; rw [← r.1]; exact hc
  · simp only [e, if_false]
    obtain ⟨q1, q2⟩ := r.2.2 a
    refine ⟨q1, ?_⟩
    cases hk : (H.2 a).1 <;> simp only [hk] at q2 ⊢
    · exact ⟨q2.1.ext E, fun k hk => (q2.2 k hk).ext E⟩
    · obtain ⟨q3, cl, q4, q5⟩ := q2; exact ⟨q3, cl, q4.ext E, q5⟩
end Rel
def Go (C : String) (fn : Nat → String × String) (F : List Nat) (Z : State) (n0 : Nat) (p : Program) (l : Launch) (e : Env) (R : Jvm.Room) (s : State) (mid : MethodId) (args : Array Value) (below : List Frame) (meth : Method) (c : Code) (start : State) (nl : Nat) (q : Fm) : Prop :=
  ∃ T' locs', Stand p l e R s mid args below meth c T' locs' q.2.2.2.1 q.2.2.2.2.1 ∧ RelH C fn F Z n0 T'.heap q.2.2.2.2.2 ∧ Fr n0 locs' ∧ q.2.2.2.1 ≤ R.cells ∧ q.2.2.2.2.1 ≤ R.slots ∧ q.2.1.length = nl ∧
    ∀ target, Steps p.tables e below (T'.setTop (mkF mid q.1 q.2.1.toArray q.2.2.1)) target → Steps p.tables e below start target
theorem lrem_mod (x y : Int64) : x - (x / y) * y = x % y := by
  apply Int64.toInt_inj.mp
  have h1 := Int64.le_toInt (x % y)
  have h2 := Int64.toInt_lt (x % y)
  rw [Int64.toInt_sub, Int64.toInt_mul, Int64.toInt_div, Int.bmod_mul_bmod, Int.sub_bmod_bmod, Int.mul_comm (x.toInt.tdiv y.toInt), ← Int.tmod_def, ← Int64.toInt_mod]
  exact Int.bmod_eq_of_le_mul_two (by omega) (by omega)
theorem arr_get {L : List Slot} {i : Nat} {o : Slot} (h : L[i]? = some o) : L.toArray[i]? = some o := by simpa using h
theorem arr_set (L : List Slot) (i : Nat) (o : Slot) : L.toArray.setIfInBounds i o = (L.set i o).toArray := by simp
theorem stl_ok {L L' : List Slot} {i : Nat} {v : Value} (hv : v.category = 1) (h : stl L i v = some L') : storeLocals L.toArray i v = some L'.toArray ∧ L'.length = L.length := by
  unfold stl at h
  unfold storeLocals
  cases hi : L[i]? with
  | none => rw [hi] at h; cases h
  | some o =>
    have hlt : i < L.length := (List.getElem?_eq_some_iff.mp hi).1
    rw [hi] at h
    rw [arr_get hi]
    cases o with
    | unset => cases h; simp [storeSelf, setAt, hlt, hv]
    | second =>
      simp only at h
      split at h
      · cases h; simp [storeSelf, setAt, hv, hlt, Nat.lt_of_le_of_lt (Nat.sub_le i 1) hlt]
      · cases h
    | val w =>
      simp only at h
      split at h
      · rename_i hw; cases h; simp [storeSelf, setAt, hv, hlt, hw]
      · rename_i hw
        split at h
        · rename_i h1
          have hw2 : w.category = 2 := by cases w <;> simp [Value.category] at hw ⊢
          cases h; simp [storeSelf, setAt, hv, hlt, hw2, h1]
        · cases h
theorem stL_ok {L L' : List Slot} {i : Nat} {v : Value} (hv : v.category = 2) (h : stL L i v = some L') : storeLocals L.toArray i v = some L'.toArray ∧ L'.length = L.length := by
  unfold stL at h
  unfold storeLocals
  cases hi : L[i]? with
  | none => rw [hi] at h; cases h
  | some o =>
    cases hi2 : L[i + 1]? with
    | none => rw [hi, hi2] at h; cases o <;> cases h
    | some o2 =>
      have hlt : i < L.length := (List.getElem?_eq_some_iff.mp hi).1
      have hlt2 : i + 1 < L.length := (List.getElem?_eq_some_iff.mp hi2).1
      rw [hi, hi2] at h
      rw [arr_get hi]
      have g2 : (L.set i (.val v))[i + 1]? = some o2 := by rw [List.getElem?_set_ne (by omega)]; exact hi2
      have g4 : L[i + 1] = o2 := (List.getElem?_eq_some_iff.mp hi2).2
      cases o with
      | second =>
        simp only at h
        have h0 : i - 1 < L.length := by omega
        split at h
        · rename_i h1
          have g2' : ((L.set (i - 1) .unset).set i (.val v))[i + 1]? = some o2 := by rw [List.getElem?_set_ne (by omega), List.getElem?_set_ne (by omega)]; exact hi2
          have g4' : ((L.set (i - 1) .unset).set i (.val v))[i + 1]'(by simpa using hlt2) = o2 := (List.getElem?_eq_some_iff.mp g2').2
          split at h
          · rename_i hc
            cases h
            cases o2 with
            | second => cases hc
            | unset => simp [storeSelf, setAt, hv, hlt, hlt2, h0, g4']
            | val w => simp only [cat1, beq_iff_eq] at hc; simp [storeSelf, setAt, hv, hlt, hlt2, h0, g4', hc]
          · split at h
            · rename_i hc
              cases h
              obtain ⟨hc, hlt3⟩ := hc
              cases o2 with
              | second => cases hc
              | unset => cases hc
              | val w => simp only [lng, beq_iff_eq] at hc; simp [storeSelf, setAt, hv, hlt, hlt2, hlt3, h0, g4', hc]
            · cases h
        · cases h
      | unset =>
        simp only at h
        split at h
        · rename_i hc
          cases h
          cases o2 with
          | second => cases hc
          | unset => simp [storeSelf, setAt, hv, hlt, hlt2, g2, g4]
          | val w => simp only [cat1, beq_iff_eq] at hc; simp [storeSelf, setAt, hv, hlt, hlt2, g2, g4, hc]
        · split at h
          · rename_i hc
            cases h
            obtain ⟨hc, hlt3⟩ := hc
            cases o2 with
            | second => cases hc
            | unset => cases hc
            | val w => simp only [lng, beq_iff_eq] at hc; simp [storeSelf, setAt, hv, hlt, hlt2, hlt3, g2, g4, hc]
          · cases h
      | val w =>
        simp only at h
        split at h
        · rename_i hw
          cases h
          have g3 : ((L.set (i + 1) .unset).set i (.val v))[i + 1]? = some .unset := by rw [List.getElem?_set_ne (by omega)]; simp [hlt2]
          simp [storeSelf, setAt, hv, hlt, hlt2, hw, g3]
          rw [List.set_comm _ _ (by omega), List.set_set, List.set_comm _ _ (by omega)]
        · rename_i hw
          have hw1 : ¬ w.category = 2 := hw
          split at h
          · rename_i hc
            cases h
            cases o2 with
            | second => cases hc
            | unset => simp [storeSelf, setAt, hv, hlt, hlt2, g2, g4, hw1]
            | val w => simp only [cat1, beq_iff_eq] at hc; simp [storeSelf, setAt, hv, hlt, hlt2, g2, g4, hw1, hc]
          · split at h
            · rename_i hc
              cases h
              obtain ⟨hc, hlt3⟩ := hc
              cases o2 with
              | second => cases hc
              | unset => cases hc
              | val w2 => simp only [lng, beq_iff_eq] at hc; simp [storeSelf, setAt, hv, hlt, hlt2, hlt3, g2, g4, hw1, hc]
            · cases h
theorem jmp_ok {pc q : Nat} {o : Int} (h : jmp pc o = some q) : 0 ≤ (pc : Int) + o ∧ ((pc : Int) + o).toNat = q := by
  unfold jmp at h
  split at h
  · rename_i g; cases h; exact ⟨g, rfl⟩
  · cases h
theorem ldI_ok {L : List Slot} {i : Nat} {v : Value} (h : ldI L i = some v) : ∃ x, v = .int x ∧ L.toArray[i]? = some (.val (.int x)) := by
  unfold ldI at h
  split at h
  · rename_i x e; cases h; exact ⟨x, rfl, arr_get e⟩
  · cases h
theorem ldJ_ok {L : List Slot} {i : Nat} {v : Value} (h : ldJ L i = some v) : ∃ x, v = .long x ∧ L.toArray[i]? = some (.val (.long x)) := by
  unfold ldJ at h
  split at h
  · rename_i x e; cases h; exact ⟨x, rfl, arr_get e⟩
  · cases h
theorem ldR_ok {L : List Slot} {i : Nat} {v : Value} (h : ldR L i = some v) : ∃ x, v = .ref x ∧ L.toArray[i]? = some (.val (.ref x)) := by
  unfold ldR at h
  split at h
  · rename_i x e; cases h; exact ⟨x, rfl, arr_get e⟩
  · cases h
theorem okv_ok {t : FieldType} {v : Value} (h : okv t v = true) : narrow t v = v ∧ fits t v = true := by
  unfold okv at h
  split at h
  · exact ⟨rfl, rfl⟩
  · rename_i z
    simp only [Bool.or_eq_true, beq_iff_eq] at h
    rcases h with rfl | rfl <;> exact ⟨rfl, rfl⟩
  · rename_i z
    simp only [beq_iff_eq] at h
    have q := fits_nar_byte z
    rw [h] at q
    exact ⟨by show Value.int _ = _; rw [h], q⟩
  · exact ⟨rfl, rfl⟩
  · exact ⟨rfl, rfl⟩
  · cases h
end Jvm.JX

namespace Jvm.JX
open Sem ClassFile Op Lib Jvm.Stand Jvm.Free Jvm.LawKit Jvm.RoadKit
section Step
variable {P : Prog} {tb : List Jvm.Cond} {C : String} {fn : Nat → String × String} {F : List Nat} {nsl : Nat} {nm : Nat → MethodName} {bt : Nat → ByteArray} {R : List Nat} {top : Nat}
variable {l : Launch} {Z : State} {a0 : Array Value} {n0 : Nat} {m pc len k n : Nat} {aux : Int} {L : List Slot} {S : List Value} {H : AH} {ins : Instr} {q : Fm}
variable {p : Program} {e : Env} {s : State} {mid : MethodId} {args : Array Value} {below : List Frame} {meth : Method} {c : Code} {T : State} {locs : List Loc} {Rm : Jvm.Room}
theorem go_same {start : State} {nl pc' : Nat} {L' : List Slot} {S' : List Value} (X : Stand p l e Rm s mid args below meth c T locs k n) (r : RelH C fn F Z n0 T.heap H) (N : Fr n0 locs) (hk : k ≤ Rm.cells) (hn : n ≤ Rm.slots) (hL : L'.length = nl)
    (st : ∀ target, Steps p.tables e below (T.setTop (mkF mid pc' L'.toArray S')) target → Steps p.tables e below start target) : Go C fn F Z n0 p l e Rm s mid args below meth c start nl (pc', L', S', k, n, H) := ⟨T, locs, X, r, N, hk, hn, hL, st⟩
theorem go_heap {start : State} {nl pc' : Nat} {L' : List Slot} {S' : List Value} {T' : State} (X : Stand p l e Rm s mid args below meth c T' locs k n) (r : RelH C fn F Z n0 T.heap H) (hh : T'.heap = T.heap) (N : Fr n0 locs) (hk : k ≤ Rm.cells) (hn : n ≤ Rm.slots) (hL : L'.length = nl)
    (st : ∀ target, Steps p.tables e below (T'.setTop (mkF mid pc' L'.toArray S')) target → Steps p.tables e below start target) : Go C fn F Z n0 p l e Rm s mid args below meth c start nl (pc', L', S', k, n, H) := ⟨T', locs, X, by rw [hh]; exact r, N, hk, hn, hL, st⟩
theorem idx_not {i : Int32} {n : Nat} (h1 : ¬ i < 0) (h2 : i.toNatClampNeg < n) : ¬ (i < 0 ∨ n ≤ i.toNatClampNeg) := fun h => h.elim h1 (Nat.not_le.mpr h2)
theorem inA_ok {a : Nat} {t : FieldType} {i : Int32} (h : inA H a t i = true) : (H.2 a).1 = .array t ∧ ¬ i < 0 ∧ i.toNatClampNeg < (H.2 a).2.1 := by
  simpa [inA, and_assoc] using h
theorem inAw_ok {a : Nat} {t : FieldType} {i : Int32} (h : inAw H a t i = true) : inA H a t i = true ∧ (H.2 a).2.2.1 = true := by
  simpa [inAw] using h
theorem isOw_ok {a : Nat} (h : isOw H a = true) : isO H a = true ∧ (H.2 a).2.2.1 = true := by simpa [isOw] using h
theorem RelH.wrF {h h' : Heap} {a j : Nat} {v : Value} (hG : Good P tb C fn F nsl nm bt R top) (hw : ∀ d ∈ tb, d.before a0 Z = true) (r : RelH C fn F Z n0 h H) (ha : isO H a = true) (hj : j ∈ F) (Wt : Wr h h' a (Jvm.RoadKit.slotOf Z C (fn j).1 (fn j).2) v) : RelH C fn F Z n0 h' (wr H a j v) := by
  refine ⟨by rw [Wt.size]; exact r.1, r.2.1, fun b => ?_⟩
  by_cases e : b = a
  · subst e
    obtain ⟨q1, q2⟩ := r.2.2 b
    obtain ⟨E, Fs⟩ := r.obj ha
    simp only [wr, if_true]
    refine ⟨q1, ?_⟩
    unfold isO at ha
    cases hk : (H.2 b).1 <;> rw [hk] at ha <;> try (cases ha; done)
    simp only
    refine ⟨E.wr Wt, fun i hi => ?_⟩
    by_cases e2 : i = j
    · subst e2; simp only [if_true]; exact (Fs i hi).same Wt
    · simp only [e2, if_false]
      refine (Fs i hi).other Wt (Or.inr ?_)
      have lw : ∀ k ∈ F, Laid Z a0 C C (fn k).1 (fn k).2 := fun k hk => ((hG.2.2.1 k hk).2).imp (hw _) (hw _)
      exact slot_ne (lw i hi) (lw j hj) (fun q => e2 (hG.2.2.2.1 i hi j hj q)) (hG.2.2.1 i hi).1 (hG.2.2.1 j hj).1
  · simp only [wr, e, if_false]
    obtain ⟨q1, q2⟩ := r.2.2 b
    refine ⟨q1, ?_⟩
    cases hk : (H.2 b).1 <;> simp only [hk] at q2 ⊢
    · exact ⟨q2.1.wr Wt, fun k hk => (q2.2 k hk).other Wt (Or.inl e)⟩
    · obtain ⟨q3, cl, q4, q5⟩ := q2; exact ⟨q3, cl, q4.other Wt e, q5⟩
theorem RelH.wrA {h h' : Heap} {a j : Nat} {t : FieldType} {v : Value} (r : RelH C fn F Z n0 h H) (ha : (H.2 a).1 = .array t) (hj : j < (H.2 a).2.1) (Wt : Wr h h' a j v) : RelH C fn F Z n0 h' (wr H a j v) := by
  refine ⟨by rw [Wt.size]; exact r.1, r.2.1, fun b => ?_⟩
  by_cases e : b = a
  · subst e
    obtain ⟨q1, q2⟩ := r.2.2 b
    obtain ⟨g1, cl, g2, g3, g4⟩ := r.arr ha
    simp only [wr, if_true]
    refine ⟨q1, ?_⟩
    simp only [ha]
    refine ⟨g1, cl.setSlot j v, g2.same Wt, by rw [sz_set]; exact g3, fun i hi => ?_⟩
    by_cases e2 : i = j
    · subst e2; simp [Cell.setSlot, g3, hj]
    · simp only [e2, if_false]; rw [← g4 i hi]; exact Array.getElem?_setIfInBounds_ne (Ne.symm e2)
  · simp only [wr, e, if_false]
    obtain ⟨q1, q2⟩ := r.2.2 b
    refine ⟨q1, ?_⟩
    cases hk : (H.2 b).1 <;> simp only [hk] at q2 ⊢
    · exact ⟨q2.1.wr Wt, fun k hk => (q2.2 k hk).other Wt (Or.inl e)⟩
    · obtain ⟨q3, cl, q4, q5⟩ := q2; exact ⟨q3, cl, q4.other Wt e, q5⟩
theorem ext_push (h : Heap) (x : Cell) : Ext h (h.push x) := ⟨by simp, fun a c q => by rw [Array.getElem?_push_lt (Array.getElem?_eq_some_iff.mp q).1]; exact (Array.getElem?_eq_getElem _).symm.trans q⟩
theorem made_obj {h : Heap} {cC : ClassId} {kC : Class} (hZ : Z.Warmed39 s.vm) (h1 : s.vm.findClass C = some cC) (h2 : s.vm.classes[cC]? = some kC) :
    Exa Z (h.push { cls := cC, slots := kC.instanceTypes.map defaultValue, vm := .none }) h.size C ∧ ∀ {nm d : String} {ty : FieldType}, Laid Z a0 C C nm d → parseFieldDescriptor d = some ty → Fld Z (h.push { cls := cC, slots := kC.instanceTypes.map defaultValue, vm := .none }) h.size C nm d (defaultValue ty) := by
  rw [hZ.alike.findClass] at h1
  obtain ⟨kZ, z1, -⟩ := Vm.findClass_spec h1
  obtain ⟨k', z2, z3⟩ := hZ.alike.2.2 _ _ z1
  cases h2.symm.trans z2
  have ei : kC.instanceTypes = kZ.instanceTypes := by rw [z3]
  have hN : ∀ x : Cell, (h.push x)[h.size]? = some x := fun x => by simp
  refine ⟨⟨_, kZ, hN _, h1, z1, rfl, fun _ => by simp [ei]⟩, fun {nm d ty} lw ht => ?_⟩
  obtain ⟨c1, k1, cf, kf, i, f, a1, a2, a3, a4, a5, a6, -⟩ := lw.spec
  cases h1.symm.trans a1
  cases z1.symm.trans a2
  exact ⟨_, cf, kf, i, f, hN _, a3, a4, by simp, rfl, a5, by simp [ei, a6, (State.fieldFound?_type a3 ht).2]⟩
theorem made_arr {h : Heap} {t : FieldType} {cA comp : ClassId} {kA : Class} {xs : Array Value} (hZ : Z.Warmed39 s.vm) (h1 : s.vm.findClass ("[" ++ t.toString) = some cA) (h2 : s.vm.classes[cA]? = some kA) (h3 : kA.kind = .array comp t) : Arr Z (h.push { cls := cA, slots := xs, vm := .none }) h.size { cls := cA, slots := xs, vm := .none } t := by
  rw [hZ.alike.findClass] at h1
  obtain ⟨kZ, z1, -⟩ := Vm.findClass_spec h1
  obtain ⟨k', z2, z3⟩ := hZ.alike.2.2 _ _ z1
  cases h2.symm.trans z2
  exact ⟨by simp, ⟨by simp, kZ, z1, comp, by rw [← h3, z3]⟩, by simp⟩
set_option maxHeartbeats 4000000 in
theorem stp_go (hG : Good P tb C fn F nsl nm bt R top) (hw : ∀ d ∈ tb, d.before a0 Z = true) (hm : m ∈ R) (hrow : P.1 m pc = some (ins, len, aux)) (h : stp P m ins len aux pc L S k n H = some q) (X : Stand p l e (rm P m) s mid args below meth c T locs k n) (hx : p.tables.exec = Jvm.exec) (hZ : Z.Warmed39 s.vm)
    (hby : c.code = bt m) (hml : c.maxLocals = ml P m) (hown : s.vm.findClass (nm m).cls = some mid.cls) (hnm : meth.name = (nm m).name) (hL : L.length = ml P m) (r : RelH C fn F Z n0 T.heap H) (N : Fr n0 locs) (hk : k ≤ (rm P m).cells) (hn : n ≤ (rm P m).slots) :
    Go C fn F Z n0 p l e (rm P m) s mid args below meth c (T.setTop (mkF mid pc L.toArray S)) (ml P m) q := by
  obtain ⟨hd, hl, ho⟩ := (hG.2.2.2.2.1 m hm).2.2 pc ins len aux hrow
  replace hd := hb hby hd
  cases ins with
  | iconst i =>
    have hl : len = 1 := hl; subst hl
    obtain rfl := Option.some.inj h
    exact go_same X r N hk hn hL fun t g => XS.iconst X.here hx rfl hd g
  | bipush i =>
    have hl : len = 2 := hl; subst hl
    obtain rfl := Option.some.inj h
    exact go_same X r N hk hn hL fun t g => XS.bipush X.here hx rfl hd g
  | sipush i =>
    have hl : len = 3 := hl; subst hl
    obtain rfl := Option.some.inj h
    exact go_same X r N hk hn hL fun t g => XS.sipush X.here hx rfl hd g
  | lconst i =>
    have hl : len = 1 := hl; subst hl
    obtain rfl := Option.some.inj h
    exact go_same X r N hk hn hL fun t g => XT.lconst X.here hx rfl hd g
  | ldc i =>
    have hl : len = 2 := hl; subst hl
    obtain rfl := Option.some.inj h
    exact go_same X r N hk hn hL fun t g => X.ldcI hx hown (mv hZ (hw _ ho)) rfl hd g
  | ldc2_w i =>
    have hl : len = 3 := hl; subst hl
    obtain rfl := Option.some.inj h
    exact go_same X r N hk hn hL fun t g => X.ldc2J hx hown (mv hZ (hw _ ho)) rfl hd g
  | iload i =>
    have hl : len = 2 := hl; subst hl
    obtain ⟨v, hv, rfl⟩ := Option.map_eq_some_iff.mp h
    obtain ⟨x, rfl, hg⟩ := ldI_ok hv
    exact go_same X r N hk hn hL fun t g => XS.iload X.here hx rfl hd hg g
  | iload_n i =>
    have hl : len = 1 := hl; subst hl
    obtain ⟨v, hv, rfl⟩ := Option.map_eq_some_iff.mp h
    obtain ⟨x, rfl, hg⟩ := ldI_ok hv
    exact go_same X r N hk hn hL fun t g => XS.iloadN X.here hx rfl hd hg g
  | lload i =>
    have hl : len = 2 := hl; subst hl
    obtain ⟨v, hv, rfl⟩ := Option.map_eq_some_iff.mp h
    obtain ⟨x, rfl, hg⟩ := ldJ_ok hv
    exact go_same X r N hk hn hL fun t g => XT.lload X.here hx rfl hd hg g
  | lload_n i =>
    have hl : len = 1 := hl; subst hl
    obtain ⟨v, hv, rfl⟩ := Option.map_eq_some_iff.mp h
    obtain ⟨x, rfl, hg⟩ := ldJ_ok hv
    exact go_same X r N hk hn hL fun t g => XT.lloadN X.here hx rfl hd hg g
  | aload i =>
    have hl : len = 2 := hl; subst hl
    obtain ⟨v, hv, rfl⟩ := Option.map_eq_some_iff.mp h
    obtain ⟨x, rfl, hg⟩ := ldR_ok hv
    exact go_same X r N hk hn hL fun t g => XS.aload X.here hx rfl hd hg rfl g
  | aload_n i =>
    have hl : len = 1 := hl; subst hl
    obtain ⟨v, hv, rfl⟩ := Option.map_eq_some_iff.mp h
    obtain ⟨x, rfl, hg⟩ := ldR_ok hv
    exact go_same X r N hk hn hL fun t g => XS.aloadN X.here hx rfl hd hg rfl g
  | istore i =>
    have hl : len = 2 := hl; subst hl
    dsimp only [stp] at h
    split at h
    · rename_i x S'
      obtain ⟨L', hv, rfl⟩ := Option.map_eq_some_iff.mp h
      obtain ⟨g1, g2⟩ := stl_ok rfl hv
      exact go_same X r N hk hn (g2.trans hL) fun t g => XS.istore X.here hx rfl hd rfl g1 g
    · cases h
  | istore_n i =>
    have hl : len = 1 := hl; subst hl
    dsimp only [stp] at h
    split at h
    · rename_i x S'
      obtain ⟨L', hv, rfl⟩ := Option.map_eq_some_iff.mp h
      obtain ⟨g1, g2⟩ := stl_ok rfl hv
      exact go_same X r N hk hn (g2.trans hL) fun t g => XS.istoreN X.here hx rfl hd rfl g1 g
    · cases h
  | astore i =>
    have hl : len = 2 := hl; subst hl
    dsimp only [stp] at h
    split at h
    · rename_i x S'
      obtain ⟨L', hv, rfl⟩ := Option.map_eq_some_iff.mp h
      obtain ⟨g1, g2⟩ := stl_ok rfl hv
      exact go_same X r N hk hn (g2.trans hL) fun t g => XS.astore X.here hx rfl hd rfl rfl g1 g
    · cases h
  | astore_n i =>
    have hl : len = 1 := hl; subst hl
    dsimp only [stp] at h
    split at h
    · rename_i x S'
      obtain ⟨L', hv, rfl⟩ := Option.map_eq_some_iff.mp h
      obtain ⟨g1, g2⟩ := stl_ok rfl hv
      exact go_same X r N hk hn (g2.trans hL) fun t g => XS.astoreN X.here hx rfl hd rfl rfl g1 g
    · cases h
  | lstore i =>
    have hl : len = 2 := hl; subst hl
    dsimp only [stp] at h
    split at h
    · rename_i x S'
      obtain ⟨L', hv, rfl⟩ := Option.map_eq_some_iff.mp h
      obtain ⟨g1, g2⟩ := stL_ok rfl hv
      exact go_same X r N hk hn (g2.trans hL) fun t g => XT.lstore X.here hx rfl hd rfl g1 g
    · cases h
  | lstore_n i =>
    have hl : len = 1 := hl; subst hl
    dsimp only [stp] at h
    split at h
    · rename_i x S'
      obtain ⟨L', hv, rfl⟩ := Option.map_eq_some_iff.mp h
      obtain ⟨g1, g2⟩ := stL_ok rfl hv
      exact go_same X r N hk hn (g2.trans hL) fun t g => XT.lstoreN X.here hx rfl hd rfl g1 g
    · cases h
  | iinc i cst =>
    have hl : len = 3 := hl; subst hl
    dsimp only [stp] at h
    split at h
    · rename_i x hx1
      obtain rfl := Option.some.inj h
      have g1 : storeLocals L.toArray i (.int (x + Int32.ofInt cst)) = some (L.set i (.val (.int (x + Int32.ofInt cst)))).toArray := (stl_ok rfl (stl_plain hx1 rfl)).1
      exact go_same X r N hk hn (by simpa using hL) fun t g => XS.iinc X.here hx rfl hd (arr_get hx1) g1 g
    · cases h
  | iadd =>
    have hl : len = 1 := hl; subst hl
    dsimp only [stp] at h
    split at h
    · rename_i y x S'
      obtain rfl := Option.some.inj h
      exact go_same X r N hk hn hL fun t g => XS.iadd X.here hx rfl hd rfl g
    · cases h
  | isub =>
    have hl : len = 1 := hl; subst hl
    dsimp only [stp] at h
    split at h
    · rename_i y x S'
      obtain rfl := Option.some.inj h
      exact go_same X r N hk hn hL fun t g => XS.isub X.here hx rfl hd rfl g
    · cases h
  | imul =>
    have hl : len = 1 := hl; subst hl
    dsimp only [stp] at h
    split at h
    · rename_i y x S'
      obtain rfl := Option.some.inj h
      exact go_same X r N hk hn hL fun t g => XS.imul X.here hx rfl hd rfl g
    · cases h
  | iand =>
    have hl : len = 1 := hl; subst hl
    dsimp only [stp] at h
    split at h
    · rename_i y x S'
      obtain rfl := Option.some.inj h
      exact go_same X r N hk hn hL fun t g => XS.iand X.here hx rfl hd rfl g
    · cases h
  | ior =>
    have hl : len = 1 := hl; subst hl
    dsimp only [stp] at h
    split at h
    · rename_i y x S'
      obtain rfl := Option.some.inj h
      exact go_same X r N hk hn hL fun t g => XT.ior X.here hx rfl hd rfl g
    · cases h
  | ixor =>
    have hl : len = 1 := hl; subst hl
    dsimp only [stp] at h
    split at h
    · rename_i y x S'
      obtain rfl := Option.some.inj h
      exact go_same X r N hk hn hL fun t g => XT.ixor X.here hx rfl hd rfl g
    · cases h
  | ishl =>
    have hl : len = 1 := hl; subst hl
    dsimp only [stp] at h
    split at h
    · rename_i y x S'
      obtain rfl := Option.some.inj h
      exact go_same X r N hk hn hL fun t g => XT.ishl X.here hx rfl hd rfl g
    · cases h
  | ishr =>
    have hl : len = 1 := hl; subst hl
    dsimp only [stp] at h
    split at h
    · rename_i y x S'
      obtain rfl := Option.some.inj h
      exact go_same X r N hk hn hL fun t g => XT.ishr X.here hx rfl hd rfl g
    · cases h
  | iushr =>
    have hl : len = 1 := hl; subst hl
    dsimp only [stp] at h
    split at h
    · rename_i y x S'
      obtain rfl := Option.some.inj h
      exact go_same X r N hk hn hL fun t g => XT.iushr X.here hx rfl hd rfl g
    · cases h
  | ladd =>
    have hl : len = 1 := hl; subst hl
    dsimp only [stp] at h
    split at h
    · rename_i y x S'
      obtain rfl := Option.some.inj h
      exact go_same X r N hk hn hL fun t g => XT.ladd X.here hx rfl hd rfl g
    · cases h
  | lsub =>
    have hl : len = 1 := hl; subst hl
    dsimp only [stp] at h
    split at h
    · rename_i y x S'
      obtain rfl := Option.some.inj h
      exact go_same X r N hk hn hL fun t g => XT.lsub X.here hx rfl hd rfl g
    · cases h
  | lmul =>
    have hl : len = 1 := hl; subst hl
    dsimp only [stp] at h
    split at h
    · rename_i y x S'
      obtain rfl := Option.some.inj h
      exact go_same X r N hk hn hL fun t g => XT.lmul X.here hx rfl hd rfl g
    · cases h
  | land =>
    have hl : len = 1 := hl; subst hl
    dsimp only [stp] at h
    split at h
    · rename_i y x S'
      obtain rfl := Option.some.inj h
      exact go_same X r N hk hn hL fun t g => XT.land X.here hx rfl hd rfl g
    · cases h
  | lor =>
    have hl : len = 1 := hl; subst hl
    dsimp only [stp] at h
    split at h
    · rename_i y x S'
      obtain rfl := Option.some.inj h
      exact go_same X r N hk hn hL fun t g => XT.lor X.here hx rfl hd rfl g
    · cases h
  | lxor =>
    have hl : len = 1 := hl; subst hl
    dsimp only [stp] at h
    split at h
    · rename_i y x S'
      obtain rfl := Option.some.inj h
      exact go_same X r N hk hn hL fun t g => XT.lxor X.here hx rfl hd rfl g
    · cases h
  | lshl =>
    have hl : len = 1 := hl; subst hl
    dsimp only [stp] at h
    split at h
    · rename_i y x S'
      obtain rfl := Option.some.inj h
      exact go_same X r N hk hn hL fun t g => XT.lshl X.here hx rfl hd rfl g
    · cases h
  | lshr =>
    have hl : len = 1 := hl; subst hl
    dsimp only [stp] at h
    split at h
    · rename_i y x S'
      obtain rfl := Option.some.inj h
      exact go_same X r N hk hn hL fun t g => XT.lshr X.here hx rfl hd rfl g
    · cases h
  | lushr =>
    have hl : len = 1 := hl; subst hl
    dsimp only [stp] at h
    split at h
    · rename_i y x S'
      obtain rfl := Option.some.inj h
      exact go_same X r N hk hn hL fun t g => XT.lushr X.here hx rfl hd rfl g
    · cases h
  | idiv =>
    have hl : len = 1 := hl; subst hl
    dsimp only [stp] at h
    split at h
    · rename_i y x S'
      split at h
      · cases h
      · rename_i g0
        obtain rfl := Option.some.inj h
        exact go_same X r N hk hn hL fun t g => XS.idiv X.here hx rfl hd rfl g0 g
    · cases h
  | irem =>
    have hl : len = 1 := hl; subst hl
    dsimp only [stp] at h
    split at h
    · rename_i y x S'
      split at h
      · cases h
      · rename_i g0
        obtain rfl := Option.some.inj h
        exact go_same X r N hk hn hL fun t g => iremM X hx rfl hd rfl g0 g
    · cases h
  | ldiv =>
    have hl : len = 1 := hl; subst hl
    dsimp only [stp] at h
    split at h
    · rename_i y x S'
      split at h
      · cases h
      · rename_i g0
        obtain rfl := Option.some.inj h
        exact go_same X r N hk hn hL fun t g => XT.ldiv X.here hx rfl hd rfl g0 g
    · cases h
  | lrem =>
    have hl : len = 1 := hl; subst hl
    dsimp only [stp] at h
    split at h
    · rename_i y x S'
      split at h
      · cases h
      · rename_i g0
        obtain rfl := Option.some.inj h
        exact go_same X r N hk hn hL fun t g => XT.lrem X.here hx rfl hd rfl g0 (by rw [lrem_mod]; exact g)
    · cases h
  | ineg =>
    have hl : len = 1 := hl; subst hl
    dsimp only [stp] at h
    split at h
    · rename_i x S'
      obtain rfl := Option.some.inj h
      exact go_same X r N hk hn hL fun t g => XS.ineg X.here hx rfl hd rfl g
    · cases h
  | lneg =>
    have hl : len = 1 := hl; subst hl
    dsimp only [stp] at h
    split at h
    · rename_i x S'
      obtain rfl := Option.some.inj h
      exact go_same X r N hk hn hL fun t g => XT.lneg X.here hx rfl hd rfl g
    · cases h
  | i2l =>
    have hl : len = 1 := hl; subst hl
    dsimp only [stp] at h
    split at h
    · rename_i x S'
      obtain rfl := Option.some.inj h
      exact go_same X r N hk hn hL fun t g => XT.i2l X.here hx rfl hd rfl g
    · cases h
  | l2i =>
    have hl : len = 1 := hl; subst hl
    dsimp only [stp] at h
    split at h
    · rename_i x S'
      obtain rfl := Option.some.inj h
      exact go_same X r N hk hn hL fun t g => XT.l2i X.here hx rfl hd rfl g
    · cases h
  | i2b =>
    have hl : len = 1 := hl; subst hl
    dsimp only [stp] at h
    split at h
    · rename_i x S'
      obtain rfl := Option.some.inj h
      exact go_same X r N hk hn hL fun t g => XT.i2b X.here hx rfl hd rfl g
    · cases h
  | lcmp =>
    have hl : len = 1 := hl; subst hl
    dsimp only [stp] at h
    split at h
    · rename_i y x S'
      obtain rfl := Option.some.inj h
      exact go_same X r N hk hn hL fun t g => XT.lcmp X.here hx rfl hd rfl g
    · cases h
  | dup =>
    have hl : len = 1 := hl; subst hl
    dsimp only [stp] at h
    split at h
    · rename_i v S'
      split at h
      · rename_i g0
        obtain rfl := Option.some.inj h
        exact go_same X r N hk hn hL fun t g => XS.dup X.here hx rfl hd rfl g0 g
      · cases h
    · cases h
  | pop =>
    have hl : len = 1 := hl; subst hl
    dsimp only [stp] at h
    split at h
    · rename_i v S'
      split at h
      · rename_i g0
        obtain rfl := Option.some.inj h
        exact go_same X r N hk hn hL fun t g => XT.pop X.here hx rfl hd rfl g0 g
      · cases h
    · cases h
  | dup2 =>
    have hl : len = 1 := hl; subst hl
    dsimp only [stp] at h
    split at h
    · rename_i x S'
      obtain rfl := Option.some.inj h
      exact go_same X r N hk hn hL fun t g => XT.dup2L X.here hx rfl hd rfl g
    · rename_i v w S' _
      split at h
      · rename_i g0
        obtain rfl := Option.some.inj h
        exact go_same X r N hk hn hL fun t g => XT.dup2 X.here hx rfl hd rfl g0.1 g0.2 g
      · cases h
    · cases h
  | goto o =>
    have hl : len = 3 := hl; subst hl
    obtain ⟨v, hv, rfl⟩ := Option.map_eq_some_iff.mp h
    obtain ⟨g1, g2⟩ := jmp_ok hv
    exact go_same X r N hk hn hL fun t g => XS.goto X.here hx rfl rfl hd g1 g2 g
  | ifCond cd o =>
    have hl : len = 3 := hl; subst hl
    dsimp only [stp] at h
    split at h
    · rename_i x S'
      split at h
      · rename_i g0
        obtain ⟨v, hv, rfl⟩ := Option.map_eq_some_iff.mp h
        obtain ⟨g1, g2⟩ := jmp_ok hv
        exact go_same X r N hk hn hL fun t g => XS.ifYes X.here hx rfl rfl hd rfl g0 g1 g2 g
      · rename_i g0
        obtain rfl := Option.some.inj h
        exact go_same X r N hk hn hL fun t g => XS.ifNo X.here hx rfl hd rfl (by simpa using g0) g
    · cases h
  | if_icmp cd o =>
    have hl : len = 3 := hl; subst hl
    dsimp only [stp] at h
    split at h
    · rename_i y x S'
      split at h
      · rename_i g0
        obtain ⟨v, hv, rfl⟩ := Option.map_eq_some_iff.mp h
        obtain ⟨g1, g2⟩ := jmp_ok hv
        exact go_same X r N hk hn hL fun t g => XS.icmpYes X.here hx rfl rfl hd rfl g0 g1 g2 g
      · rename_i g0
        obtain rfl := Option.some.inj h
        exact go_same X r N hk hn hL fun t g => XS.icmpNo X.here hx rfl hd rfl (by simpa using g0) g
    · cases h
  | tableswitch d lo hi os =>
    dsimp only [stp] at h
    split at h
    · rename_i x S'
      split at h
      · rename_i g0
        obtain ⟨v, hv, rfl⟩ := Option.map_eq_some_iff.mp h
        obtain ⟨g1, g2⟩ := jmp_ok hv
        exact go_same X r N hk hn hL fun t g => XS.tswOut X.here hx rfl rfl hd rfl g0 g1 g2 g
      · rename_i g0
        obtain ⟨o, ho1, h⟩ := Option.bind_eq_some_iff.mp h
        obtain ⟨v, hv, rfl⟩ := Option.map_eq_some_iff.mp h
        obtain ⟨g1, g2⟩ := jmp_ok hv
        exact go_same X r N hk hn hL fun t g => XS.tswIn X.here hx rfl rfl hd rfl g0 ho1 g1 g2 g
    · cases h
  | getfield i =>
    have hl : len = 3 := hl; subst hl
    dsimp only [stp] at h
    split at h
    · rename_i a S'
      split at h
      · rename_i g0
        obtain rfl := Option.some.inj h
        obtain ⟨T1, X1, e1, st1⟩ := getF X hx hZ hown (host := "") (Or.inl (hw _ ho.2)) Via.refl rfl ((r.obj g0).2 _ ho.1) (g := mkF mid pc L.toArray (.ref a :: S')) rfl rfl hd
        exact go_heap X1 r e1 N hk hn hL fun t g => st1 t g
      · cases h
    · cases h
  | putfield i =>
    have hl : len = 3 := hl; subst hl
    dsimp only [stp] at h
    split at h
    · rename_i v a S'
      split at h
      · rename_i g0
        obtain rfl := Option.some.inj h
        obtain ⟨o1, o2, o3⟩ := ho
        obtain ⟨w1, w2⟩ := isOw_ok g0.1
        obtain ⟨n1, n2⟩ := okv_ok g0.2
        have hlay : (Jvm.Cond.lays C C (fn aux.toNat).1 (fn aux.toNat).2).before a0 Z = true ∨ ((Jvm.Cond.laysFinal C C (fn aux.toNat).1 (fn aux.toNat).2).before a0 Z = true ∧ (nm m).cls = C ∧ meth.name = "<init>") := by
          rcases o3 with q | ⟨q1, q2⟩
          · exact Or.inl (hw _ q)
          · rcases (hG.2.2.1 _ o1).2 with q | q
            · exact Or.inl (hw _ q)
            · exact Or.inr ⟨hw _ q, q1, hnm.trans q2⟩
        obtain ⟨T1, h1, X1, e1, W1, st1⟩ := putF X hx hZ hown (host := "") (Or.inl (hw _ o2)) Via.refl rfl ((r.obj w1).2 _ o1) (r.obj w1).1 hlay (hw _ hG.1) (hG.2.2.1 _ o1).1 n1 n2 (g := mkF mid pc L.toArray (v :: .ref a :: S')) rfl rfl hd
        exact ⟨T1, _, X1, by rw [e1]; exact r.wrF hG hw w1 o1 W1, Fr.snoc X1 N (r.own w2), hk, hn, hL, st1⟩
      · cases h
    · cases h
  | iaload =>
    have hl : len = 1 := hl; subst hl
    dsimp only [stp] at h
    split at h
    · rename_i i a S'
      split at h
      · rename_i g0
        obtain rfl := Option.some.inj h
        obtain ⟨w1, w2, w3⟩ := inA_ok g0
        obtain ⟨b1, cl, b2, b3, b4⟩ := r.arr w1
        exact go_same X r N hk hn hL fun t g => X.iaload hx (g := mkF mid pc L.toArray (.int i :: .ref a :: S')) b2.1 (State.isArrayOf_alike hZ.alike b2.2.1) b2.2.2 (by rw [b3]; exact idx_not w2 w3) (b4 _ w3) rfl rfl hd t g
      · cases h
    · cases h
  | laload =>
    have hl : len = 1 := hl; subst hl
    dsimp only [stp] at h
    split at h
    · rename_i i a S'
      split at h
      · rename_i g0
        obtain rfl := Option.some.inj h
        obtain ⟨w1, w2, w3⟩ := inA_ok g0
        obtain ⟨b1, cl, b2, b3, b4⟩ := r.arr w1
        exact go_same X r N hk hn hL fun t g => X.laload hx (g := mkF mid pc L.toArray (.int i :: .ref a :: S')) b2.1 (State.isArrayOf_alike hZ.alike b2.2.1) b2.2.2 (by rw [b3]; exact idx_not w2 w3) (b4 _ w3) rfl rfl hd t g
      · cases h
    · cases h
  | baload =>
    have hl : len = 1 := hl; subst hl
    dsimp only [stp] at h
    split at h
    · rename_i i a S'
      split at h
      · rename_i g0
        obtain rfl := Option.some.inj h
        rcases g0 with g0 | g0
        · obtain ⟨w1, w2, w3⟩ := inA_ok g0
          obtain ⟨b1, cl, b2, b3, b4⟩ := r.arr w1
          exact go_same X r N hk hn hL fun t g => X.baloadBytes hx (g := mkF mid pc L.toArray (.int i :: .ref a :: S')) b2.1 (State.isArrayOf_alike hZ.alike b2.2.1) b2.2.2 (by rw [b3]; exact idx_not w2 w3) (b4 _ w3) rfl rfl hd t g
        · obtain ⟨w1, w2, w3⟩ := inA_ok g0
          obtain ⟨b1, cl, b2, b3, b4⟩ := r.arr w1
          exact go_same X r N hk hn hL fun t g => X.baloadBooleans hx (g := mkF mid pc L.toArray (.int i :: .ref a :: S')) b2.1 (State.isArrayOf_alike hZ.alike b2.2.1) b2.2.2 (by rw [b3]; exact idx_not w2 w3) (b4 _ w3) rfl rfl hd t g
      · cases h
    · cases h
  | iastore =>
    have hl : len = 1 := hl; subst hl
    dsimp only [stp] at h
    split at h
    · rename_i x i a S'
      split at h
      · rename_i g0
        obtain rfl := Option.some.inj h
        obtain ⟨g1, g2⟩ := inAw_ok g0
        obtain ⟨w1, w2, w3⟩ := inA_ok g1
        obtain ⟨b1, cl, b2, b3, b4⟩ := r.arr w1
        obtain ⟨T1, h1, X1, e1, W1, st1⟩ := stI X hx hZ rfl b2 (j := i) (x := x) (by rw [b3]; exact idx_not w2 w3) (g := mkF mid pc L.toArray (.int x :: .int i :: .ref a :: S')) rfl rfl hd
        exact ⟨T1, _, X1, by rw [e1]; exact r.wrA w1 w3 W1, Fr.snoc X1 N (r.own g2), hk, hn, hL, st1⟩
      · cases h
    · cases h
  | lastore =>
    have hl : len = 1 := hl; subst hl
    dsimp only [stp] at h
    split at h
    · rename_i x i a S'
      split at h
      · rename_i g0
        obtain rfl := Option.some.inj h
        obtain ⟨g1, g2⟩ := inAw_ok g0
        obtain ⟨w1, w2, w3⟩ := inA_ok g1
        obtain ⟨b1, cl, b2, b3, b4⟩ := r.arr w1
        obtain ⟨T1, h1, X1, e1, W1, st1⟩ := stJ X hx hZ rfl b2 (j := i) (x := x) (by rw [b3]; exact idx_not w2 w3) (g := mkF mid pc L.toArray (.long x :: .int i :: .ref a :: S')) rfl rfl hd
        exact ⟨T1, _, X1, by rw [e1]; exact r.wrA w1 w3 W1, Fr.snoc X1 N (r.own g2), hk, hn, hL, st1⟩
      · cases h
    · cases h
  | bastore =>
    have hl : len = 1 := hl; subst hl
    dsimp only [stp] at h
    split at h
    · rename_i x i a S'
      split at h
      · rename_i g0
        obtain rfl := Option.some.inj h
        rcases g0 with ⟨g0, gx⟩ | ⟨g0, gx⟩
        · obtain ⟨g1, g2⟩ := inAw_ok g0
          obtain ⟨w1, w2, w3⟩ := inA_ok g1
          obtain ⟨b1, cl, b2, b3, b4⟩ := r.arr w1
          have hx2 : nar .byte x = x := Value.int.inj (okv_ok gx).1
          obtain ⟨T1, h1, X1, e1, W1, st1⟩ := stB X hx hZ rfl b2 (j := i) (x := x) (by rw [b3]; exact idx_not w2 w3) (g := mkF mid pc L.toArray (.int x :: .int i :: .ref a :: S')) rfl rfl hd
          rw [hx2] at W1
          exact ⟨T1, _, X1, by rw [e1]; exact r.wrA w1 w3 W1, Fr.snoc X1 N (r.own g2), hk, hn, hL, st1⟩
        · obtain ⟨g1, g2⟩ := inAw_ok g0
          obtain ⟨w1, w2, w3⟩ := inA_ok g1
          obtain ⟨b1, cl, b2, b3, b4⟩ := r.arr w1
          have hx2 : nar .boolean x = x := Value.int.inj (okv_ok gx).1
          obtain ⟨T1, h1, X1, e1, W1, st1⟩ := stZ X hx hZ rfl b2 (j := i) (x := x) (by rw [b3]; exact idx_not w2 w3) (g := mkF mid pc L.toArray (.int x :: .int i :: .ref a :: S')) rfl rfl hd
          rw [hx2] at W1
          exact ⟨T1, _, X1, by rw [e1]; exact r.wrA w1 w3 W1, Fr.snoc X1 N (r.own g2), hk, hn, hL, st1⟩
      · cases h
    · cases h
  | arraylength =>
    have hl : len = 1 := hl; subst hl
    dsimp only [stp] at h
    split at h
    · rename_i a S'
      split at h
      · rename_i g0
        obtain rfl := Option.some.inj h
        obtain ⟨t0, w1⟩ : ∃ t0, (H.2 a).1 = .array t0 := by unfold isA at g0; cases hq : (H.2 a).1 <;> rw [hq] at g0 <;> first | (cases g0; done) | exact ⟨_, rfl⟩
        obtain ⟨b1, cl, b2, b3, b4⟩ := r.arr w1
        refine go_same X r N hk hn hL fun t g => X.arraylength hx (g := mkF mid pc L.toArray (.ref a :: S')) b2.1 (State.isArrayOf_alike hZ.alike b2.2.1) rfl rfl hd t ?_
        rw [b3]; exact g
      · cases h
    · cases h
  | newarray t =>
    have hl : len = 2 := hl; subst hl
    dsimp only [stp] at h
    split at h
    · rename_i cnt S'
      split at h
      · rename_i g0
        obtain rfl := Option.some.inj h
        obtain ⟨z1, z2, z3, z4⟩ := g0
        have hcb : componentBytes (newarray.typeOf t) ≤ 8 := by cases t <;> decide
        obtain ⟨cA, kA, comp, h1, h2, h3, X1, st1⟩ := X.newarrayPrim hx (mvA hZ (hw _ ho)) (g := mkF mid pc L.toArray (.int cnt :: S')) rfl hd rfl z1 (Nat.le_trans (Nat.mul_le_mul_left _ hcb) z2) z3 z4
        refine ⟨_, locs, X1, ?_, N, z3, z4, hL, fun t g => st1 t (by rw [r.1]; exact g)⟩
        exact r.ext (ext_push _ _) (by show (T.heap.push _).size = _; simp) ⟨fun _ => by rw [r.1]; exact r.2.1, (back32 z1).2, _, made_arr hZ h1 h2 h3, by simp, fun i hi => by simp [hi]⟩
      · cases h
    · cases h
  | new i =>
    have hl : len = 3 := hl; subst hl
    dsimp only [stp] at h
    split at h
    · rename_i g0
      obtain rfl := Option.some.inj h
      obtain ⟨z1, z2, z3⟩ := g0
      rw [ho.1] at z3 ⊢
      obtain ⟨vm1, cC, kC, h1, h2, h3, h4, X1, st1⟩ := X.newCold hx hown (mv hZ (hw _ ho.2)) (mv hZ (hw _ hG.1)) (mv hZ (hw _ hG.2.1)) (g := mkF mid pc L.toArray S) rfl hd z2 z3
      obtain ⟨A1, D1⟩ := made_obj (h := T.heap) (a0 := a0) hZ h1 h2
      refine ⟨_, locs, X1, ?_, N, z2, z3, hL, fun t g => st1 t (by rw [r.1]; exact g)⟩
      exact r.ext (ext_push _ _) (by show (T.heap.push _).size = _; simp) ⟨fun _ => by rw [r.1]; exact r.2.1, A1, fun j hj => D1 (((hG.2.2.1 j hj).2).imp (hw _) (hw _)) (hG.2.2.1 j hj).1⟩
    · cases h
  | invokespecial i =>
    have hl : len = 3 := hl; subst hl
    dsimp only [stp] at h
    split at h
    · rename_i a S'
      split at h
      · rename_i g0
        obtain rfl := Option.some.inj h
        obtain ⟨rfl, z2, z3⟩ := g0
        obtain ⟨o1, o2, o3⟩ := ho.1 rfl
        obtain ⟨T1, X1, e1, st1⟩ := initO X hx hZ hown (hw _ o1) (hw _ o2) (hw _ o3) rfl (g := mkF mid pc L.toArray (.ref a :: S')) rfl (by rw [hml, ← hL]; simp) rfl hd z2 (W := cs S') (by show 2 * 0 + _ ≤ _; exact Nat.le_of_eq (Nat.zero_add _)) z3
        exact go_heap X1 r e1 N hk hn hL fun t g => st1 t g
      · cases h
    · cases h
  | _ => exact absurd (show (none : Option Fm) = some q from h) (by simp)
end Step
end Jvm.JX

namespace Jvm.JX
open Sem ClassFile Op Lib Jvm.Stand Jvm.Free Jvm.LawKit Jvm.RoadKit
section Sound
variable {P : Prog} {tb : List Jvm.Cond} {C : String} {fn : Nat → String × String} {F : List Nat} {nsl : Nat} {nm : Nat → MethodName} {bt : Nat → ByteArray} {R : List Nat} {top : Nat}
variable {l : Launch} {Z : State} {a0 : Array Value} {n0 : Nat}
def Endd (C : String) (fn : Nat → String × String) (F : List Nat) (Z : State) (n0 : Nat) (p : Program) (l : Launch) (e : Env) (Rm : Jvm.Room) (s : State) (mid : MethodId) (args : Array Value) (below : List Frame) (meth : Method) (c : Code) (rt0 : Option FieldType) (start : State) (v : Option Value) (H' : AH) : Prop :=
  ∃ T' locs' k' n', Stand p l e Rm s mid args below meth c T' locs' k' n' ∧ RelH C fn F Z n0 T'.heap H' ∧ Fr n0 locs' ∧ k' ≤ Rm.cells ∧ n' ≤ Rm.slots ∧ (rt0 = none → v = none) ∧
    ∀ fs, (∀ (f : JFrame) (acts : List Action), f.method = mid → f.locked = none → f.entered = [] → (doReturn e (T'.setTop f) acts v).1 = T'.setFrames fs) → Steps p.tables e below start (T'.setFrames fs)
def Says (P : Prog) (C : String) (fn : Nat → String × String) (F : List Nat) (nm : Nat → MethodName) (bt : Nat → ByteArray) (l : Launch) (Z : State) (n0 m pc : Nat) (L : List Slot) (S : List Value) (k n : Nat) (H : AH) (v : Option Value) (H' : AH) : Prop :=
  ∀ (p : Program) (e : Env) (s : State) (mid : MethodId) (args : Array Value) (below : List Frame) (meth : Method) (c : Code) (T : State) (locs : List Loc), Stand p l e (rm P m) s mid args below meth c T locs k n → p.tables.exec = Jvm.exec → Z.Warmed39 s.vm → c.code = bt m → c.maxLocals = ml P m →
    s.vm.findClass (nm m).cls = some mid.cls → meth.name = (nm m).name → meth.sig.returnType = rt P m → L.length = ml P m → RelH C fn F Z n0 T.heap H → Fr n0 locs → k ≤ (rm P m).cells → n ≤ (rm P m).slots →
    Endd C fn F Z n0 p l e (rm P m) s mid args below meth c (rt P m) (T.setTop (mkF mid pc L.toArray S)) v H'
theorem Endd.back {p : Program} {e : Env} {Rm : Jvm.Room} {s : State} {mid : MethodId} {args : Array Value} {below : List Frame} {meth : Method} {c : Code} {rt0 : Option FieldType} {start start' : State} {v : Option Value} {H' : AH}
    (h : Endd C fn F Z n0 p l e Rm s mid args below meth c rt0 start' v H') (st : ∀ t, Steps p.tables e below start' t → Steps p.tables e below start t) : Endd C fn F Z n0 p l e Rm s mid args below meth c rt0 start v H' := by
  obtain ⟨T', locs', k', n', h1, h2, h3, h4, h5, h6, h7⟩ := h
  exact ⟨T', locs', k', n', h1, h2, h3, h4, h5, h6, fun fs g => st _ (h7 fs g)⟩
theorem met_of {m : Nat} {as : List Value} {H H' : AH} {v : Option Value} {h : Heap} (ws : List Jvm.Cond) (hp : plainName (nm m).cls = true) (hl : (Sym.laidSlots as).length ≤ ml P m) (r : RelH C fn F Z n0 h H)
    (hS : Says P C fn F nm bt l Z n0 m 0 (ent P m as) [] 0 0 H v H') :
    MetFree l (nm m) (head1 (Jvm.Cond.code (nm m) (bt m) (ml P m) (rt P m) :: ws) (rm P m)) (fun a U => a = as.toArray ∧ Z.Warmed39 U.vm ∧ U.heap = h) (fun _ _ _ _ _ => True)
      (fun _ U o U' => ∃ v' L, o = .returned v' ∧ (v' = v ∧ Fr n0 L ∧ RelH C fn F Z n0 U'.heap H') ∧ FrameEnd U o U' L (rm P m).cells (rm P m).slots) := by
  refine MetFree.of_bodySF (plainFor_of_name hp) hisR ?_
  intro p e s mid args below meth c s₁ Bd hml0 hP hK
  obtain ⟨rfl, hZ, hh⟩ := hP
  have X0 : Stand p l e (rm P m) s mid as.toArray below meth c s₁ [] 0 0 := Stand.of_body Bd
  have e0 : s₁.heap = h := by rw [← hh, Bd.state]; rfl
  have hle : (ent P m as).length = ml P m := by simp [ent]; omega
  obtain ⟨T', locs', k', n', X1, r1, N1, hk1, hn1, hv1, st1⟩ := hS p e s mid as.toArray below meth c s₁ [] X0 Bd.exec hZ Bd.bytes hml0 (findClass_of_methodNamed Bd.named) (name_of_methodNamed Bd.named Bd.method).1 Bd.returns hle (by rw [e0]; exact r) (Fr.nil n0) (Nat.zero_le _) (Nat.zero_le _)
  obtain ⟨fs, hr, hrun, hended, hW, hsame⟩ := X1.leave (v := v) (fun q => hv1 (Bd.returns.symm.trans q))
  refine ⟨_, _, (Jvm.Free.XT.entry (Ls := (ent P m as).toArray) (by simp [ent])).trans (st1 fs hr), hrun, hended, v, locs', rfl, ⟨rfl, N1, r1⟩, ⟨_, rfl⟩, hW, hsame.mono hk1 hn1⟩
theorem ret_ok {m : Nat} {ins : Instr} {S : List Value} {v : Option Value} (h : ret P m ins S = some v) : (rt P m = none ∧ v = none ∧ ins = .return_ ∧ S = []) ∨ ∃ t w rest, rt P m = some t ∧ v = some w ∧ S = w :: rest ∧ narrow t w = w ∧
    ((ins = .ireturn ∧ (t = .int ∨ t = .boolean ∨ t = .byte ∨ t = .char ∨ t = .short) ∧ ∃ z, w = .int z) ∨ (ins = .lreturn ∧ t = .long ∧ ∃ z, w = .long z)) := by
  unfold ret at h
  split at h
  · split at h
    · rename_i g; cases h; exact Or.inl ⟨g.1, rfl, rfl, g.2⟩
    · cases h
  · split at h
    · rename_i z rest g; cases h; exact Or.inr ⟨.int, _, rest, g, rfl, rfl, rfl, Or.inl ⟨rfl, Or.inl rfl, z, rfl⟩⟩
    · rename_i z rest g
      split at h
      · rename_i g0
        cases h
        refine Or.inr ⟨.boolean, _, rest, g, rfl, rfl, ?_, Or.inl ⟨rfl, Or.inr (Or.inl rfl), z, rfl⟩⟩
        rcases g0 with rfl | rfl <;> rfl
      · cases h
    · cases h
  · split at h
    · rename_i z rest g; cases h; exact Or.inr ⟨.long, _, rest, g, rfl, rfl, rfl, Or.inr ⟨rfl, rfl, z, rfl⟩⟩
    · cases h
  · cases h
theorem cal_ok {m m' k n : Nat} {ins : Instr} {aux : Int} {S a r : List Value} {H : AH} (h : cal P m ins aux S k n H = some (m', a, r)) : aux = (m' : Int) ∧ kindOk ins (kd P m') = true ∧ may P m m' a r k n H = true ∧ S = a.reverse ++ r := by
  have h1 : cal1 P m ins aux S k n H = some (m', a, r) := by
    unfold cal at h
    split at h <;> first | exact h | (cases h)
  unfold cal1 at h1
  split at h1
  · rename_i g
    cases h1
    exact ⟨by omega, g.2.1, g.2.2, by rw [List.reverse_reverse]; exact (List.take_append_drop ..).symm⟩
  · cases h1
end Sound
end Jvm.JX

namespace Jvm.JX
open Sem ClassFile Op Lib Jvm.Stand Jvm.Free Jvm.LawKit Jvm.RoadKit
section Sound
variable {P : Prog} {tb : List Jvm.Cond} {C : String} {fn : Nat → String × String} {F : List Nat} {nsl : Nat} {nm : Nat → MethodName} {bt : Nat → ByteArray} {R : List Nat} {top : Nat}
variable {l : Launch} {Z : State} {a0 : Array Value} {n0 : Nat}
theorem may_ok {m m' k n : Nat} {a r : List Value} {H : AH} (h : may P m m' a r k n H = true) : (Sym.laidSlots a).length ≤ ml P m' ∧ a.length = na P m' ∧ (rm P m').frames + 1 ≤ (rm P m).frames ∧ cs r + (ml P m' + 11) + (rm P m').locals ≤ (rm P m).locals ∧
    (((rm P m').cells = 0 ∧ (rm P m').slots = 0) ∨ (k + (rm P m').cells ≤ (rm P m).cells ∧ n + (rm P m').slots ≤ (rm P m).slots)) ∧ (kd P m' = 0 ∨ rcv H a = true) := by
  simpa [may, and_assoc] using h
theorem rcv_ok {H : AH} {a : List Value} (h : rcv H a = true) : ∃ b as, a = .ref b :: as ∧ isO H b = true := by
  unfold rcv at h
  split at h
  · exact ⟨_, _, rfl, h⟩
  · cases h
set_option maxHeartbeats 1000000 in
theorem call_go {m pc len k n m' : Nat} {aux : Int} {L : List Slot} {S a r : List Value} {H H1 : AH} {ins : Instr} {v1 : Option Value} {p : Program} {e : Env} {s : State} {mid : MethodId} {args : Array Value} {below : List Frame} {meth : Method} {c : Code} {T : State} {locs : List Loc}
    (hG : Good P tb C fn F nsl nm bt R top) (hw : ∀ d ∈ tb, d.before a0 Z = true) (hm : m ∈ R) (hrow : P.1 m pc = some (ins, len, aux)) (hc : cal P m ins aux S k n H = some (m', a, r)) (hS : m' ∈ R → Says P C fn F nm bt l Z n0 m' 0 (ent P m' a) [] 0 0 H v1 H1)
    (X : Stand p l e (rm P m) s mid args below meth c T locs k n) (hx : p.tables.exec = Jvm.exec) (hZ : Z.Warmed39 s.vm)
    (hby : c.code = bt m) (hml : c.maxLocals = ml P m) (hown : s.vm.findClass (nm m).cls = some mid.cls) (hL : L.length = ml P m) (rr : RelH C fn F Z n0 T.heap H) (N : Fr n0 locs) (hk : k ≤ (rm P m).cells) (hn : n ≤ (rm P m).slots) :
    Go C fn F Z n0 p l e (rm P m) s mid args below meth c (T.setTop (mkF mid pc L.toArray S)) (ml P m) (pc + len, L, v1.toList ++ r, k + (rm P m').cells, n + (rm P m').slots, H1) := by
  obtain ⟨hd, hl, ho⟩ := (hG.2.2.2.2.1 m hm).2.2 pc ins len aux hrow
  replace hd := hb hby hd
  obtain ⟨e1, e2, e3, e4⟩ := cal_ok hc
  obtain ⟨y1, y2, y3, y4, y5, y6⟩ := may_ok e3
  have hnt : m' ≠ top := fun q => by
    have := hG.2.2.2.2.2.2 m hm pc ins len aux hrow (by rw [e1, q])
    rw [q, this] at e2; cases e2
  have y5' : k + (rm P m').cells ≤ (rm P m).cells ∧ n + (rm P m').slots ≤ (rm P m).slots := by rcases y5 with ⟨q1, q2⟩ | q <;> omega
  have hsize : (mkF mid pc L.toArray S).locals.size = c.maxLocals := by rw [hml, ← hL]; simp
  have hcs : 2 * (mkF mid pc L.toArray S).monitorRoom + (r.map fun v => v.category).sum ≤ cs r := by show 2 * 0 + _ ≤ _; exact Nat.le_of_eq (Nat.zero_add _)
  subst e1
  cases ins with
  | invokevirtual ix =>
    have hl : len = 3 := hl
    subst hl
    obtain ⟨mR, lnk⟩ := ho
    rw [Int.toNat_natCast] at mR lnk
    obtain ⟨c1, c2, ⟨ps, rr0, c3, c4⟩, c5, c6, c7, c8, c9⟩ := hG.2.2.2.2.2.1 m' mR hnt
    have hk0 : kd P m' ≠ 0 := fun q => by rw [q] at e2; cases e2
    obtain ⟨hcls, hinst⟩ := c6 hk0
    obtain ⟨b, as, rfl, hb⟩ := rcv_ok (y6.resolve_left hk0)
    obtain ⟨Eb, -⟩ := rr.obj hb
    have hlen : as.length = ps.length := by rw [if_neg hk0] at c4; simp only [List.length_cons] at y2; omega
    have eS : S = as.reverse ++ .ref b :: r := by rw [e4]; simp
    subst eS
    obtain ⟨pn, hy, -⟩ := hG.2.2.2.2.1 m' mR
    have BK := backOf (Q := fun v' h' L' => v' = v1 ∧ Fr n0 L' ∧ RelH C fn F Z n0 h' H1) (R := rm P m) (W := cs r) (p := p) (e := e) (below := below) (s := s) (args := args) (len := 3) (met_of [] pn y1 rr (hS mR)) hZ (hw _ c1) (hw _ c2) y3 y4
    have hkk : kd P m' = 1 ∨ kd P m' = 2 := by simpa [kindOk] using e2
    rcases hkk with hkk | hkk
    · obtain ⟨d1, d2⟩ := c7 hkk
      obtain ⟨cB, kB, q1, q2, q3⟩ := isOf (T := T) hZ rfl Eb
      obtain ⟨v, vm1, ⟨T1, L1, k1, n1⟩, -, X1, ⟨Lc, hQ, l1, z1, z2⟩, st⟩ := X.virtualBack hx (y := nm m') (z := nm m') hown (mvT hZ (hw _ lnk)) (mvT hZ (hw _ d1)) (notFace_of_selects (args := #[]) (mvT hZ (hw _ d2))) (mvT hZ (hw _ d2)) (mvT hZ (hw _ hinst)) hy BK q1 q3 (g := mkF mid pc L.toArray (as.reverse ++ .ref b :: r)) rfl hsize (Steps.refl _) (argsL := as) (rest := r) (lenOf c3 hlen) rfl hcs hd (fun _ _ => ⟨rfl, rfl, y5'.1, y5'.2⟩)
      dsimp only [Pt.U, Pt.locs, Pt.cells, Pt.slots] at X1 l1 z1 z2 st hQ
      subst l1 z1 z2
      obtain ⟨rfl, N1, r1⟩ := hQ
      exact ⟨T1, _, X1, r1, Fr.app N N1, y5'.1, y5'.2, hL, fun t g => st.trans g⟩
    · obtain ⟨ci, ki, i1, i2, i3, i4, -⟩ := Cond.instantiable_spec (show (Jvm.Cond.instantiable C nsl).before args s = true from mv hZ (hw _ hG.1))
      have hni : ki.isInterface = false := (Bool.or_eq_false_iff.mp i4).1
      have hpriv := Cond.privateMethod_at (mvP hZ (hw _ (c8 hkk)) (args := #[]))
      have hsel : (Jvm.Cond.selects (nm m').cls (nm m') (nm m')).before args s = true := selects_self_of_private (by rw [hcls]; exact i1) i2 hni hpriv (mvT hZ (hw _ hinst)) hy
      obtain ⟨cl, hcl, hcl'⟩ := Eb.cell
      obtain ⟨v, vm1, ⟨T1, L1, k1, n1⟩, -, X1, ⟨Lc, hQ, l1, z1, z2⟩, st⟩ := X.privateBack hx (y := nm m') hown (mvT hZ (hw _ lnk)) (mvT hZ (hw _ hinst)) hsel hpriv (mvT hZ (hw _ c1)) hy BK (g := mkF mid pc L.toArray (as.reverse ++ .ref b :: r)) rfl hsize (Steps.refl _) (a := b) hcl hcl' (argsL := as) (rest := r) (lenOf c3 hlen) rfl hcs hd (fun _ _ => ⟨rfl, rfl, y5'.1, y5'.2⟩)
      dsimp only [Pt.U, Pt.locs, Pt.cells, Pt.slots] at X1 l1 z1 z2 st hQ
      subst l1 z1 z2
      obtain ⟨rfl, N1, r1⟩ := hQ
      exact ⟨T1, _, X1, r1, Fr.app N N1, y5'.1, y5'.2, hL, fun t g => st.trans g⟩
  | invokestatic ix =>
    have hl : len = 3 := hl
    subst hl
    obtain ⟨mR, lnk⟩ := ho
    rw [Int.toNat_natCast] at mR lnk
    obtain ⟨c1, c2, ⟨ps, rr0, c3, c4⟩, c5, c6, c7, c8, c9⟩ := hG.2.2.2.2.2.1 m' mR hnt
    have hk0 : kd P m' = 0 := by simpa [kindOk] using e2
    have hlen : a.length = ps.length := by rw [if_pos hk0] at c4; omega
    subst e4
    obtain ⟨pn, hy, -⟩ := hG.2.2.2.2.1 m' mR
    have BK := backOf (Q := fun v' h' L' => v' = v1 ∧ Fr n0 L' ∧ RelH C fn F Z n0 h' H1) (R := rm P m) (W := cs r) (p := p) (e := e) (below := below) (s := s) (args := args) (len := 3) (met_of [] pn y1 rr (hS mR)) hZ (hw _ c1) (hw _ c2) y3 y4
    obtain ⟨v, vm1, ⟨T1, L1, k1, n1⟩, -, X1, ⟨Lc, hQ, l1, z1, z2⟩, st⟩ := Jvm.LawKit.callS X hx (y := nm m') hown (mvT hZ (hw _ lnk)) (mvT hZ (hw _ (c5 hk0))) (mvT hZ (hw _ c2)) (mvT hZ (hw _ c1)) hy BK (g := mkF mid pc L.toArray (a.reverse ++ r)) rfl hsize (argsL := a) (rest := r) (lenOf c3 hlen) rfl hcs hd (fun _ _ => ⟨rfl, rfl, y5'.1, y5'.2⟩)
    dsimp only [Pt.U, Pt.locs, Pt.cells, Pt.slots] at X1 l1 z1 z2 st hQ
    subst l1 z1 z2
    obtain ⟨rfl, N1, r1⟩ := hQ
    exact ⟨T1, _, X1, r1, Fr.app N N1, y5'.1, y5'.2, hL, fun t g => st t g⟩
  | invokespecial ix =>
    have hl : len = 3 := hl
    subst hl
    obtain ⟨mR, lnk⟩ := ho.2 (by omega)
    rw [Int.toNat_natCast] at mR lnk
    obtain ⟨c1, c2, ⟨ps, rr0, c3, c4⟩, c5, c6, c7, c8, c9⟩ := hG.2.2.2.2.2.1 m' mR hnt
    have hk3 : kd P m' = 3 := by simpa [kindOk] using e2
    have hk0 : kd P m' ≠ 0 := by omega
    obtain ⟨hcls, hinst⟩ := c6 hk0
    obtain ⟨hn3, hr3⟩ := c9 hk3
    obtain ⟨b, as, rfl, hb⟩ := rcv_ok (y6.resolve_left hk0)
    have hlen : as.length = ps.length := by rw [if_neg hk0] at c4; simp only [List.length_cons] at y2; omega
    have eS : S = as.reverse ++ .ref b :: r := by rw [e4]; simp
    subst eS
    obtain ⟨pn, hy, -⟩ := hG.2.2.2.2.1 m' mR
    have BK := backOf (Q := fun v' h' L' => v' = v1 ∧ Fr n0 L' ∧ RelH C fn F Z n0 h' H1) (R := rm P m) (W := cs r) (p := p) (e := e) (below := below) (s := s) (args := args) (len := 3) (met_of [] pn y1 rr (hS mR)) hZ (hw _ c1) (hw _ c2) y3 y4
    rw [hr3] at c1
    obtain ⟨v, vm1, ⟨T1, L1, k1, n1⟩, -, X1, ⟨Lc, hQ, l1, z1, z2⟩, st⟩ := X.specialBack hx (y := nm m') hn3 hown (mvT hZ (hw _ lnk)) (mvT hZ (hw _ hinst)) (mvT hZ (hw _ c1)) hy BK (g := mkF mid pc L.toArray (as.reverse ++ .ref b :: r)) rfl hsize (Steps.refl _) (a := b) (argsL := as) (rest := r) (lenOf c3 hlen) rfl hcs hd (fun _ _ => ⟨rfl, rfl, y5'.1, y5'.2⟩)
    dsimp only [Pt.U, Pt.locs, Pt.cells, Pt.slots] at X1 l1 z1 z2 st hQ
    subst l1 z1 z2
    obtain ⟨rfl, N1, r1⟩ := hQ
    exact ⟨T1, _, X1, r1, Fr.app N N1, y5'.1, y5'.2, hL, fun t g => st.trans g⟩
  | _ => cases e2
theorem sound (hG : Good P tb C fn F nsl nm bt R top) (hw : ∀ d ∈ tb, d.before a0 Z = true) : ∀ (f m : Nat), m ∈ R → ∀ (pc : Nat) (L : List Slot) (S : List Value) (k n : Nat) (H : AH) (v : Option Value) (H' : AH), run P f m pc L S k n H = some (v, H') → Says P C fn F nm bt l Z n0 m pc L S k n H v H' := by
  intro f
  induction f with
  | zero => intro m _ pc L S k n H v H' h; cases h
  | succ f ih =>
    intro m hm pc L S k n H v H' h p e s mid args below meth c T locs X hx hZ hby hml hown hnm hret hL r N hk hn
    rw [run_succ] at h
    cases hd : P.1 m pc with
    | none => rw [hd] at h; cases h
    | some d =>
      obtain ⟨ins, len, aux⟩ := d
      rw [hd] at h
      simp only at h
      cases hr : ret P m ins S with
      | some v1 =>
        rw [hr] at h
        cases h
        obtain ⟨hdec, hl, -⟩ := (hG.2.2.2.2.1 m hm).2.2 pc ins len aux hd
        replace hdec := hb hby hdec
        rcases ret_ok hr with ⟨q1, rfl, rfl, q0⟩ | ⟨t, w, rest, q1, rfl, rfl, q4, q5⟩
        · have hl : len = 1 := hl
          subst hl
          exact ⟨T, locs, k, n, X, r, N, hk, hn, fun _ => rfl, fun fs g => by subst q0; exact X.returnOut hx (hret.trans q1) hdec g⟩
        · refine ⟨T, locs, k, n, X, r, N, hk, hn, fun q => absurd (q1.symm.trans q) (by simp), fun fs g => ?_⟩
          have hl1 : len = 1 := by
            rcases q5 with ⟨rfl, -⟩ | ⟨rfl, -⟩ <;> exact hl
          subst hl1
          exact retOut X hx (hret.trans q1) q4 (q5.elim (fun u => Or.inl u) (fun u => Or.inr (Or.inl u))) hdec g
      | none =>
        rw [hr] at h
        simp only at h
        cases hc : cal P m ins aux S k n H with
        | some cc =>
          obtain ⟨m', a, rs⟩ := cc
          rw [hc] at h
          simp only at h
          cases hq : run P f m' 0 (ent P m' a) [] 0 0 H with
          | none => rw [hq] at h; cases h
          | some q =>
            obtain ⟨v1, H1⟩ := q
            rw [hq] at h
            obtain ⟨T1, locs1, X1, r1, N1, hk1, hn1, hL1, st⟩ := call_go hG hw hm hd hc (fun mR => ih m' mR _ _ _ _ _ _ _ _ hq) X hx hZ hby hml hown hL r N hk hn
            exact (ih m hm _ _ _ _ _ _ _ _ h p e s mid args below meth c T1 locs1 X1 hx hZ hby hml hown hnm hret hL1 r1 N1 hk1 hn1).back st
        | none =>
          rw [hc] at h
          simp only at h
          cases hs : stp P m ins len aux pc L S k n H with
          | none => rw [hs] at h; cases h
          | some q =>
            rw [hs] at h
            obtain ⟨T1, locs1, X1, r1, N1, hk1, hn1, hL1, st⟩ := stp_go hG hw hm hd hs X hx hZ hby hml hown hnm hL r N hk hn
            exact (ih m hm _ _ _ _ _ _ _ _ h p e s mid args below meth c T1 locs1 X1 hx hZ hby hml hown hnm hret hL1 r1 N1 hk1 hn1).back st
theorem law_met (hG : Good P tb C fn F nsl nm bt R top) (hw : ∀ d ∈ tb, d.before a0 Z = true) {as : List Value} {H : AH} {h : Heap} {Q : Option Value → AH → Prop} (ws : List Jvm.Cond) (ht : top ∈ R) (hl : (Sym.laidSlots as).length ≤ ml P top) (r : RelH C fn F Z n0 h H) (hC : Cl P top as H Q) :
    MetFree l (nm top) (head1 (Jvm.Cond.code (nm top) (bt top) (ml P top) (rt P top) :: ws) (rm P top)) (fun a U => a = as.toArray ∧ Z.Warmed39 U.vm ∧ U.heap = h) (fun _ _ _ _ _ => True)
      (fun _ U o U' => ∃ v' L, o = .returned v' ∧ (Fr n0 L ∧ ∃ H', Q v' H') ∧ FrameEnd U o U' L (rm P top).cells (rm P top).slots) := by
  obtain ⟨f, v, H', h1, h2⟩ := hC
  have hM := met_of (l := l) (h := h) ws (hG.2.2.2.2.1 top ht).1 hl r (sound hG hw f top ht _ _ _ _ _ _ _ _ h1)
  intro p e ha hc hk s m args below hf happ hP hK
  obtain ⟨n, o, q1, q2, q3, v', L, q4, ⟨q5, q6, q7⟩, q8⟩ := hM p e ha hc hk s m args below hf happ hP hK
  exact ⟨n, o, q1, q2, q3, v', L, q4, ⟨q6, H', by rw [q5]; exact h2⟩, q8⟩
end Sound
end Jvm.JX
namespace Jvm.JX
open Sem ClassFile Op Lib Jvm.Stand Jvm.Free Jvm.LawKit Jvm.RoadKit
theorem fa0 {α : Type} {p : α → Prop} : ∀ x ∈ ([] : List α), p x := fun _ q => nomatch q
theorem faS {α : Type} {p : α → Prop} {y : α} {L : List α} (q : p y) (r : ∀ x ∈ L, p x) : ∀ x ∈ y :: L, p x := fun x z => (List.mem_cons.mp z).elim (fun u => u ▸ q) (r x)
def rowChk (FL ML : List (Nat × Nat × Nat)) (KI KJ : List (Nat × Nat × Int)) (AT : List FieldType) (WF : List Nat) (nsl nw : Nat) (own : Nat) (ini : Bool) (ins : Instr) (aux : Int) : Bool :=
  match ins with
  | .getfield i => FL.contains (own, i, aux.toNat)
  | .putfield i => FL.contains (own, i, aux.toNat) && (WF.contains aux.toNat || ini)
  | .new i => decide (aux.toNat = nsl) && decide (own = 1) && decide (i = nw)
  | .newarray t => decide (newarray.typeOf t ∈ AT)
  | .ldc i => KI.contains (own, i, aux)
  | .ldc2_w i => KJ.contains (own, i, aux)
  | .invokevirtual i => ML.contains (own, i, aux.toNat)
  | .invokestatic i => ML.contains (own, i, aux.toNat)
  | .invokespecial i => if aux = -1 then decide (own = 0) && decide (i = 1) else ML.contains (own, i, aux.toNat)
  | _ => true
def rowOne (FL ML : List (Nat × Nat × Nat)) (KI KJ : List (Nat × Nat × Int)) (AT : List FieldType) (WF : List Nat) (nsl nw : Nat) (bt : Nat → ByteArray) (own : Nat → Nat) (ini : Nat → Bool) (m : Nat) (r : Row) : Bool :=
  decide (decode (bt m) r.1 = .ok (r.2.1, r.2.2.1)) && decide (r.2.2.1 = ilen2 r.2.1 r.2.2.1) && rowChk FL ML KI KJ AT WF nsl nw (own m) (ini m) r.2.1 r.2.2.2
theorem all_td {α : Type} {p : α → Bool} {l : List α} (c : Nat) (h1 : (l.take c).all p = true) (h2 : (l.drop c).all p = true) : l.all p = true := by
  rw [← List.take_append_drop c l, List.all_append, h1, h2]; rfl
theorem all_c {α : Type} {p : α → Bool} {l : List α} {a : α} (h1 : p a = true) (h2 : l.all p = true) : (a :: l).all p = true := by
  rw [List.all_cons, h1, h2]; rfl
theorem all_n {α : Type} {p : α → Bool} : ([] : List α).all p = true := rfl
theorem lookup_mem {L : List Row} {pc : Nat} {d : Instr × Nat × Int} (h : L.lookup pc = some d) : (pc, d) ∈ L := by
  induction L with
  | nil => cases h
  | cons x L ih =>
    obtain ⟨k, v⟩ := x
    rw [List.lookup_cons] at h
    by_cases e : pc = k
    · subst e; simp at h; subst h; exact List.mem_cons_self ..
    · have : (pc == k) = false := by simpa using e
      rw [this] at h; exact List.mem_cons_of_mem _ (ih h)
theorem row_ok {P : Prog} {tb : List Jvm.Cond} {C : String} {fn : Nat → String × String} {F : List Nat} {nsl nw : Nat} {nm : Nat → MethodName} {R : List Nat} {cn : Nat → String} {own : Nat → Nat} {ini : Nat → Bool}
    {FL ML : List (Nat × Nat × Nat)} {KI KJ : List (Nat × Nat × Int)} {AT : List FieldType} {WF : List Nat} {m : Nat} {ins : Instr} {aux : Int}
    (hown : (nm m).cls = cn (own m)) (hini : ini m = true → (nm m).cls = C ∧ (nm m).name = "<init>")
    (hFL : ∀ t ∈ FL, t.2.2 ∈ F ∧ Jvm.Cond.fieldLink (cn t.1) t.2.1 C (fn t.2.2).1 (fn t.2.2).2 ∈ tb) (hWF : ∀ k ∈ WF, Jvm.Cond.lays C C (fn k).1 (fn k).2 ∈ tb)
    (hML : ∀ t ∈ ML, t.2.2 ∈ R ∧ Jvm.Cond.methodLink (cn t.1) t.2.1 (nm t.2.2) ∈ tb) (hKI : ∀ t ∈ KI, Jvm.Cond.constant (cn t.1) t.2.1 (Int32.ofInt t.2.2) ∈ tb) (hKJ : ∀ t ∈ KJ, Jvm.Cond.constantLong (cn t.1) t.2.1 (Int64.ofInt t.2.2) ∈ tb)
    (hAT : ∀ t ∈ AT, Jvm.Cond.arrayClass t ∈ tb) (hN : Jvm.Cond.classLink (cn 1) nw C ∈ tb)
    (hO : Jvm.Cond.methodLink (cn 0) 1 Lib.objectInit ∈ tb ∧ Jvm.Cond.instanceMethod Lib.objectInit ∈ tb ∧ Jvm.Cond.code Lib.objectInit ⟨#[0xb1]⟩ 1 none ∈ tb)
    (h : rowChk FL ML KI KJ AT WF nsl nw (own m) (ini m) ins aux = true) : RowOk P tb C fn F nsl nm R m ins aux := by
  cases ins <;> first | trivial | skip
  case getfield i => have q := hFL _ (List.contains_iff_mem.mp h); exact ⟨q.1, by rw [hown]; exact q.2⟩
  case putfield i =>
    simp only [rowChk, Bool.and_eq_true, Bool.or_eq_true] at h
    have q := hFL _ (List.contains_iff_mem.mp h.1)
    exact ⟨q.1, by rw [hown]; exact q.2, h.2.imp (fun u => hWF _ (List.contains_iff_mem.mp u)) hini⟩
  case new i =>
    simp only [rowChk, Bool.and_eq_true, decide_eq_true_eq] at h
    obtain ⟨⟨h1, h2⟩, h3⟩ := h
    exact ⟨h1, by rw [hown, h2, h3]; exact hN⟩
  case newarray t => exact hAT _ (of_decide_eq_true h)
  case ldc i => have q := hKI _ (List.contains_iff_mem.mp h); show _ ∈ tb; rw [hown]; exact q
  case ldc2_w i => have q := hKJ _ (List.contains_iff_mem.mp h); show _ ∈ tb; rw [hown]; exact q
  case invokevirtual i => have q := hML _ (List.contains_iff_mem.mp h); exact ⟨q.1, by rw [hown]; exact q.2⟩
  case invokestatic i => have q := hML _ (List.contains_iff_mem.mp h); exact ⟨q.1, by rw [hown]; exact q.2⟩
  case invokespecial i =>
    simp only [rowChk] at h
    refine ⟨fun e => ?_, fun e => ?_⟩
    · rw [if_pos e] at h
      simp only [Bool.and_eq_true, decide_eq_true_eq] at h
      rw [hown, h.1, h.2]; exact hO
    · rw [if_neg (by omega)] at h
      have q := hML _ (List.contains_iff_mem.mp h)
      exact ⟨q.1, by rw [hown]; exact q.2⟩
theorem rel_H0 {C : String} {fn : Nat → String × String} {F : List Nat} {Z : State} (h : Heap) : RelH C fn F Z h.size h (H0 h.size) := ⟨rfl, Nat.le_refl _, fun a => ⟨fun q => (by cases q), trivial⟩⟩
theorem rel_H1 {C : String} {fn : Nat → String × String} {F : List Nat} {s : State} {a : Addr} {cl : Cell} (hf : Fit s) (A : Arr s s.heap a cl .int) (hl : cl.slots.size < 2 ^ 31) :
    ∃ f : Nat → Int32, RelH C fn F s s.heap.size s.heap (H1 s.heap.size a cl.slots.size f) := by
  refine ⟨fun i => match cl.slots[i]? with | some (.int x) => x | _ => 0, rfl, Nat.le_refl _, fun b => ?_⟩
  simp only [H1]
  by_cases e : b = a
  · subst e
    simp only [if_true]
    refine ⟨fun q => (by cases q), hl, cl, A, rfl, fun i hi => ?_⟩
    have hi : i < cl.slots.size := hi
    have hj := idx_in hi hl
    obtain ⟨v, q1, q2⟩ := elem_fit hf A hj
    have e2 : (i.toInt32).toNatClampNeg = i := by
      have := len_toInt (n := i) (by omega)
      simp only [Int32.toNatClampNeg, this]; omega
    rw [e2] at q1
    obtain ⟨x, rfl⟩ := fit_I q2 (Or.inl rfl)
    show _ = some (Value.int (match cl.slots[i]? with | some (.int x) => x | _ => 0))
    rw [q1]
  · simp only [e, if_false]; exact ⟨fun q => (by cases q), trivial⟩
end Jvm.JX

namespace Jvm.JX.Pj
open Jvm Jvm.ClassFile Sem Op Lib Jvm.JX
def r1 : List Row := [(0, .aload_n 0, 1, 0), (1, .invokespecial 1, 3, (-1)), (4, .aload_n 0, 1, 0), (5, .bipush 96, 2, 0), (7, .newarray .int, 2, 0), (9, .putfield 7, 3, 2), (12, .aload_n 0, 1, 0), (13, .iconst 4, 1, 0), (14, .newarray .int, 2, 0), (16, .putfield 13, 3, 4), (19, .aload_n 0, 1, 0), (20, .bipush 96, 2, 0), (22, .newarray .int, 2, 0), (24, .putfield 16, 3, 5), (27, .aload_n 0, 1, 0), (28, .bipush 8, 2, 0), (30, .newarray .int, 2, 0), (32, .putfield 19, 3, 14), (35, .aload_n 0, 1, 0), (36, .bipush 48, 2, 0), (38, .newarray .int, 2, 0), (40, .putfield 22, 3, 15), (43, .aload_n 0, 1, 0), (44, .bipush 6, 2, 0), (46, .newarray .int, 2, 0), (48, .putfield 25, 3, 16), (51, .aload_n 0, 1, 0), (52, .bipush 6, 2, 0), (54, .newarray .long, 2, 0), (56, .putfield 28, 3, 17), (59, .aload_n 0, 1, 0), (60, .bipush 6, 2, 0), (62, .newarray .long, 2, 0), (64, .putfield 32, 3, 18), (67, .aload_n 0, 1, 0), (68, .bipush 48, 2, 0), (70, .newarray .long, 2, 0), (72, .putfield 35, 3, 19), (75, .aload_n 0, 1, 0), (76, .bipush 40, 2, 0), (78, .newarray .long, 2, 0), (80, .putfield 38, 3, 20), (83, .aload_n 0, 1, 0), (84, .bipush 54, 2, 0), (86, .newarray .long, 2, 0), (88, .putfield 41, 3, 21), (91, .aload_n 0, 1, 0), (92, .bipush 54, 2, 0), (94, .newarray .long, 2, 0), (96, .putfield 44, 3, 22), (99, .aload_n 0, 1, 0), (100, .bipush 9, 2, 0), (102, .newarray .int, 2, 0), (104, .putfield 47, 3, 23), (107, .aload_n 0, 1, 0), (108, .bipush 9, 2, 0), (110, .newarray .int, 2, 0), (112, .putfield 50, 3, 24), (115, .aload_n 0, 1, 0), (116, .bipush 6, 2, 0), (118, .newarray .long, 2, 0), (120, .putfield 53, 3, 25), (123, .iload_n 1, 1, 0), (124, .istore_n 3, 1, 0), (125, .iload_n 3, 1, 0), (126, .iconst 2, 1, 0), (127, .if_icmp .ge 5, 3, 0), (130, .iconst 2, 1, 0), (131, .istore_n 3, 1, 0), (132, .iload_n 3, 1, 0), (133, .bipush 6, 2, 0), (135, .if_icmp .le 6, 3, 0), (138, .bipush 6, 2, 0), (140, .istore_n 3, 1, 0), (141, .iload_n 2, 1, 0), (142, .istore 4, 2, 0), (144, .iload 4, 2, 0), (146, .iconst 1, 1, 0), (147, .if_icmp .ge 6, 3, 0), (150, .iconst 1, 1, 0), (151, .istore 4, 2, 0), (153, .iload 4, 2, 0), (155, .bipush 8, 2, 0), (157, .if_icmp .le 7, 3, 0), (160, .bipush 8, 2, 0), (162, .istore 4, 2, 0), (164, .aload_n 0, 1, 0), (165, .iload_n 3, 1, 0), (166, .putfield 56, 3, 0), (169, .aload_n 0, 1, 0), (170, .iload 4, 2, 0), (172, .putfield 60, 3, 1), (175, .aload_n 0, 1, 0), (176, .iconst 0, 1, 0), (177, .putfield 63, 3, 3), (180, .aload_n 0, 1, 0), (181, .iconst 0, 1, 0), (182, .putfield 66, 3, 10), (185, .return_, 1, 0)]
def r2 : List Row := [(0, .aload_n 0, 1, 0), (1, .getfield 63, 3, 3), (4, .ifCond .lt 12, 3, 0), (7, .aload_n 0, 1, 0), (8, .getfield 63, 3, 3), (11, .bipush 96, 2, 0), (13, .if_icmp .lt 5, 3, 0), (16, .iconst 0, 1, 0), (17, .ireturn, 1, 0), (18, .aload_n 0, 1, 0), (19, .iload_n 1, 1, 0), (20, .invokevirtual 70, 3, 23), (23, .ifCond .ne 5, 3, 0), (26, .iconst 0, 1, 0), (27, .ireturn, 1, 0), (28, .aload_n 0, 1, 0), (29, .getfield 7, 3, 2), (32, .aload_n 0, 1, 0), (33, .getfield 63, 3, 3), (36, .iload_n 1, 1, 0), (37, .iastore, 1, 0), (38, .aload_n 0, 1, 0), (39, .dup, 1, 0), (40, .getfield 63, 3, 3), (43, .iconst 1, 1, 0), (44, .iadd, 1, 0), (45, .putfield 63, 3, 3), (48, .iconst 1, 1, 0), (49, .ireturn, 1, 0)]
def r6 : List Row := [(0, .aload_n 0, 1, 0), (1, .iconst 0, 1, 0), (2, .putfield 66, 3, 10), (5, .aload_n 0, 1, 0), (6, .invokevirtual 74, 3, 24), (9, .ifCond .ne 5, 3, 0), (12, .iconst 1, 1, 0), (13, .ireturn, 1, 0), (14, .aload_n 0, 1, 0), (15, .getfield 78, 3, 7), (18, .aload_n 0, 1, 0), (19, .getfield 56, 3, 0), (22, .if_icmp .le 5, 3, 0), (25, .iconst 2, 1, 0), (26, .ireturn, 1, 0), (27, .aload_n 0, 1, 0), (28, .getfield 81, 3, 6), (31, .aload_n 0, 1, 0), (32, .getfield 60, 3, 1), (35, .if_icmp .le 5, 3, 0), (38, .iconst 3, 1, 0), (39, .ireturn, 1, 0), (40, .aload_n 0, 1, 0), (41, .aload_n 0, 1, 0), (42, .getfield 78, 3, 7), (45, .putfield 84, 3, 11), (48, .aload_n 0, 1, 0), (49, .aload_n 0, 1, 0), (50, .getfield 87, 3, 8), (53, .putfield 90, 3, 12), (56, .aload_n 0, 1, 0), (57, .aload_n 0, 1, 0), (58, .getfield 81, 3, 6), (61, .putfield 93, 3, 13), (64, .iconst 0, 1, 0), (65, .istore_n 1, 1, 0), (66, .iload_n 1, 1, 0), (67, .bipush 8, 2, 0), (69, .if_icmp .ge 33, 3, 0), (72, .aload_n 0, 1, 0), (73, .getfield 19, 3, 14), (76, .iload_n 1, 1, 0), (77, .iload_n 1, 1, 0), (78, .aload_n 0, 1, 0), (79, .getfield 93, 3, 13), (82, .if_icmp .ge 12, 3, 0), (85, .aload_n 0, 1, 0), (86, .getfield 16, 3, 5), (89, .iload_n 1, 1, 0), (90, .iaload, 1, 0), (91, .goto 4, 3, 0), (94, .iconst 0, 1, 0), (95, .iastore, 1, 0), (96, .iinc 1 1, 3, 0), (99, .goto (-33), 3, 0), (102, .aload_n 0, 1, 0), (103, .invokevirtual 96, 3, 29), (106, .aload_n 0, 1, 0), (107, .invokevirtual 99, 3, 36), (110, .ifCond .ne 5, 3, 0), (113, .iconst 4, 1, 0), (114, .ireturn, 1, 0), (115, .aload_n 0, 1, 0), (116, .invokevirtual 102, 3, 37), (119, .aload_n 0, 1, 0), (120, .aload_n 0, 1, 0), (121, .getfield 93, 3, 13), (124, .iconst 1, 1, 0), (125, .iadd, 1, 0), (126, .aload_n 0, 1, 0), (127, .getfield 84, 3, 11), (130, .invokevirtual 105, 3, 38), (133, .istore_n 1, 1, 0), (134, .aload_n 0, 1, 0), (135, .getfield 84, 3, 11), (138, .iload_n 1, 1, 0), (139, .isub, 1, 0), (140, .istore_n 2, 1, 0), (141, .iload_n 2, 1, 0), (142, .iconst 2, 1, 0), (143, .if_icmp .lt 5, 3, 0), (146, .iconst 5, 1, 0), (147, .ireturn, 1, 0), (148, .iload_n 2, 1, 0), (149, .iconst 1, 1, 0), (150, .if_icmp .ge 6, 3, 0), (153, .bipush 6, 2, 0), (155, .ireturn, 1, 0), (156, .aload_n 0, 1, 0), (157, .iload_n 1, 1, 0), (158, .invokevirtual 109, 3, 42), (161, .ifCond .ne 6, 3, 0), (164, .bipush 6, 2, 0), (166, .ireturn, 1, 0), (167, .iconst 0, 1, 0), (168, .istore_n 3, 1, 0), (169, .iload_n 3, 1, 0), (170, .bipush 6, 2, 0), (172, .if_icmp .ge 16, 3, 0), (175, .aload_n 0, 1, 0), (176, .getfield 32, 3, 18), (179, .iload_n 3, 1, 0), (180, .lconst 0, 1, 0), (181, .lastore, 1, 0), (182, .iinc 3 1, 3, 0), (185, .goto (-16), 3, 0), (188, .aload_n 0, 1, 0), (189, .iconst 1, 1, 0), (190, .putfield 66, 3, 10), (193, .iconst 0, 1, 0), (194, .ireturn, 1, 0)]
def r7 : List Row := [(0, .aload_n 0, 1, 0), (1, .getfield 66, 3, 10), (4, .ifCond .eq 10, 3, 0), (7, .aload_n 0, 1, 0), (8, .getfield 84, 3, 11), (11, .goto 4, 3, 0), (14, .iconst 0, 1, 0), (15, .ireturn, 1, 0)]
def r8 : List Row := [(0, .aload_n 0, 1, 0), (1, .getfield 66, 3, 10), (4, .ifCond .eq 10, 3, 0), (7, .aload_n 0, 1, 0), (8, .getfield 90, 3, 12), (11, .goto 4, 3, 0), (14, .iconst 0, 1, 0), (15, .ireturn, 1, 0)]
def r9 : List Row := [(0, .aload_n 0, 1, 0), (1, .getfield 66, 3, 10), (4, .ifCond .eq 10, 3, 0), (7, .aload_n 0, 1, 0), (8, .getfield 93, 3, 13), (11, .goto 4, 3, 0), (14, .iconst 0, 1, 0), (15, .ireturn, 1, 0)]
def r10 : List Row := [(0, .aload_n 0, 1, 0), (1, .getfield 66, 3, 10), (4, .ifCond .eq 21, 3, 0), (7, .iload_n 1, 1, 0), (8, .ifCond .lt 17, 3, 0), (11, .iload_n 1, 1, 0), (12, .aload_n 0, 1, 0), (13, .getfield 93, 3, 13), (16, .if_icmp .ge 9, 3, 0), (19, .iload_n 1, 1, 0), (20, .bipush 8, 2, 0), (22, .if_icmp .lt 5, 3, 0), (25, .iconst (-1), 1, 0), (26, .ireturn, 1, 0), (27, .aload_n 0, 1, 0), (28, .getfield 19, 3, 14), (31, .iload_n 1, 1, 0), (32, .iaload, 1, 0), (33, .ireturn, 1, 0)]
def r11 : List Row := [(0, .aload_n 0, 1, 0), (1, .iload_n 1, 1, 0), (2, .invokevirtual 112, 3, 18), (5, .ifCond .eq 21, 3, 0), (8, .iload_n 2, 1, 0), (9, .ifCond .lt 17, 3, 0), (12, .iload_n 2, 1, 0), (13, .aload_n 0, 1, 0), (14, .getfield 93, 3, 13), (17, .if_icmp .ge 9, 3, 0), (20, .iload_n 2, 1, 0), (21, .bipush 8, 2, 0), (23, .if_icmp .lt 5, 3, 0), (26, .iconst 0, 1, 0), (27, .ireturn, 1, 0), (28, .aload_n 0, 1, 0), (29, .getfield 22, 3, 15), (32, .iload_n 1, 1, 0), (33, .bipush 8, 2, 0), (35, .imul, 1, 0), (36, .iload_n 2, 1, 0), (37, .iadd, 1, 0), (38, .iaload, 1, 0), (39, .ireturn, 1, 0)]
def r13 : List Row := [(0, .aload_n 0, 1, 0), (1, .iload_n 1, 1, 0), (2, .invokevirtual 112, 3, 18), (5, .ifCond .ne 5, 3, 0), (8, .lconst 0, 1, 0), (9, .lreturn, 1, 0), (10, .aload_n 0, 1, 0), (11, .getfield 28, 3, 17), (14, .iload_n 1, 1, 0), (15, .laload, 1, 0), (16, .lreturn, 1, 0)]
def r18 : List Row := [(0, .aload_n 0, 1, 0), (1, .getfield 66, 3, 10), (4, .ifCond .eq 25, 3, 0), (7, .iload_n 1, 1, 0), (8, .ifCond .lt 21, 3, 0), (11, .iload_n 1, 1, 0), (12, .aload_n 0, 1, 0), (13, .getfield 84, 3, 11), (16, .if_icmp .ge 13, 3, 0), (19, .iload_n 1, 1, 0), (20, .bipush 6, 2, 0), (22, .if_icmp .ge 7, 3, 0), (25, .iconst 1, 1, 0), (26, .goto 4, 3, 0), (29, .iconst 0, 1, 0), (30, .ireturn, 1, 0)]
def r20 : List Row := [(0, .iload_n 1, 1, 0), (1, .bipush 65, 2, 0), (3, .if_icmp .lt 13, 3, 0), (6, .iload_n 1, 1, 0), (7, .bipush 90, 2, 0), (9, .if_icmp .gt 7, 3, 0), (12, .iconst 1, 1, 0), (13, .goto 4, 3, 0), (16, .iconst 0, 1, 0), (17, .ireturn, 1, 0)]
def r21 : List Row := [(0, .iload_n 1, 1, 0), (1, .bipush 97, 2, 0), (3, .if_icmp .lt 13, 3, 0), (6, .iload_n 1, 1, 0), (7, .bipush 122, 2, 0), (9, .if_icmp .gt 7, 3, 0), (12, .iconst 1, 1, 0), (13, .goto 4, 3, 0), (16, .iconst 0, 1, 0), (17, .ireturn, 1, 0)]
def r22 : List Row := [(0, .iload_n 1, 1, 0), (1, .bipush 48, 2, 0), (3, .if_icmp .lt 13, 3, 0), (6, .iload_n 1, 1, 0), (7, .bipush 57, 2, 0), (9, .if_icmp .gt 7, 3, 0), (12, .iconst 1, 1, 0), (13, .goto 4, 3, 0), (16, .iconst 0, 1, 0), (17, .ireturn, 1, 0)]
def r23 : List Row := [(0, .aload_n 0, 1, 0), (1, .iload_n 1, 1, 0), (2, .invokevirtual 122, 3, 20), (5, .ifCond .ne 19, 3, 0), (8, .aload_n 0, 1, 0), (9, .iload_n 1, 1, 0), (10, .invokevirtual 125, 3, 21), (13, .ifCond .ne 11, 3, 0), (16, .aload_n 0, 1, 0), (17, .iload_n 1, 1, 0), (18, .invokevirtual 128, 3, 22), (21, .ifCond .eq 5, 3, 0), (24, .iconst 1, 1, 0), (25, .ireturn, 1, 0), (26, .iload_n 1, 1, 0), (27, .bipush 40, 2, 0), (29, .if_icmp .eq 21, 3, 0), (32, .iload_n 1, 1, 0), (33, .bipush 41, 2, 0), (35, .if_icmp .eq 15, 3, 0), (38, .iload_n 1, 1, 0), (39, .bipush 91, 2, 0), (41, .if_icmp .eq 9, 3, 0), (44, .iload_n 1, 1, 0), (45, .bipush 93, 2, 0), (47, .if_icmp .ne 5, 3, 0), (50, .iconst 1, 1, 0), (51, .ireturn, 1, 0), (52, .iload_n 1, 1, 0), (53, .bipush 46, 2, 0), (55, .if_icmp .eq 27, 3, 0), (58, .iload_n 1, 1, 0), (59, .bipush 94, 2, 0), (61, .if_icmp .eq 21, 3, 0), (64, .iload_n 1, 1, 0), (65, .bipush 43, 2, 0), (67, .if_icmp .eq 15, 3, 0), (70, .iload_n 1, 1, 0), (71, .bipush 45, 2, 0), (73, .if_icmp .eq 9, 3, 0), (76, .iload_n 1, 1, 0), (77, .bipush 61, 2, 0), (79, .if_icmp .ne 7, 3, 0), (82, .iconst 1, 1, 0), (83, .goto 4, 3, 0), (86, .iconst 0, 1, 0), (87, .ireturn, 1, 0)]
def r24 : List Row := [(0, .aload_n 0, 1, 0), (1, .iconst 0, 1, 0), (2, .putfield 81, 3, 6), (5, .aload_n 0, 1, 0), (6, .iconst 1, 1, 0), (7, .putfield 78, 3, 7), (10, .aload_n 0, 1, 0), (11, .iconst 0, 1, 0), (12, .putfield 87, 3, 8), (15, .iconst 0, 1, 0), (16, .istore_n 1, 1, 0), (17, .iconst 0, 1, 0), (18, .istore_n 2, 1, 0), (19, .iconst 1, 1, 0), (20, .istore_n 3, 1, 0), (21, .iconst 0, 1, 0), (22, .istore 4, 2, 0), (24, .iconst 0, 1, 0), (25, .istore 5, 2, 0), (27, .iload 5, 2, 0), (29, .bipush 97, 2, 0), (31, .if_icmp .ge 287, 3, 0), (34, .iload_n 1, 1, 0), (35, .aload_n 0, 1, 0), (36, .getfield 63, 3, 3), (39, .if_icmp .ge 279, 3, 0), (42, .aload_n 0, 1, 0), (43, .getfield 7, 3, 2), (46, .iload_n 1, 1, 0), (47, .iaload, 1, 0), (48, .istore 6, 2, 0), (50, .aload_n 0, 1, 0), (51, .iload 6, 2, 0), (53, .invokevirtual 122, 3, 20), (56, .ifCond .eq 20, 3, 0), (59, .aload_n 0, 1, 0), (60, .iload_n 1, 1, 0), (61, .invokevirtual 131, 3, 25), (64, .istore_n 1, 1, 0), (65, .iload_n 1, 1, 0), (66, .ifCond .ge 5, 3, 0), (69, .iconst 0, 1, 0), (70, .ireturn, 1, 0), (71, .iconst 0, 1, 0), (72, .istore_n 3, 1, 0), (73, .goto 239, 3, 0), (76, .iload 6, 2, 0), (78, .bipush 40, 2, 0), (80, .if_icmp .eq 10, 3, 0), (83, .iload 6, 2, 0), (85, .bipush 91, 2, 0), (87, .if_icmp .ne 29, 3, 0), (90, .iload_n 2, 1, 0), (91, .iconst 4, 1, 0), (92, .if_icmp .lt 5, 3, 0), (95, .iconst 0, 1, 0), (96, .ireturn, 1, 0), (97, .aload_n 0, 1, 0), (98, .getfield 13, 3, 4), (101, .iload_n 2, 1, 0), (102, .iload 6, 2, 0), (104, .iastore, 1, 0), (105, .iinc 2 1, 3, 0), (108, .iinc 1 1, 3, 0), (111, .iconst 1, 1, 0), (112, .istore_n 3, 1, 0), (113, .goto 199, 3, 0), (116, .iload_n 3, 1, 0), (117, .ifCond .eq 5, 3, 0), (120, .iconst 0, 1, 0), (121, .ireturn, 1, 0), (122, .iload 6, 2, 0), (124, .bipush 41, 2, 0), (126, .if_icmp .eq 10, 3, 0), (129, .iload 6, 2, 0), (131, .bipush 93, 2, 0), (133, .if_icmp .ne 58, 3, 0), (136, .iload 6, 2, 0), (138, .bipush 41, 2, 0), (140, .if_icmp .ne 8, 3, 0), (143, .bipush 40, 2, 0), (145, .goto 5, 3, 0), (148, .bipush 91, 2, 0), (150, .istore 7, 2, 0), (152, .iload_n 2, 1, 0), (153, .ifCond .le 16, 3, 0), (156, .aload_n 0, 1, 0), (157, .getfield 13, 3, 4), (160, .iload_n 2, 1, 0), (161, .iconst 1, 1, 0), (162, .isub, 1, 0), (163, .iaload, 1, 0), (164, .iload 7, 2, 0), (166, .if_icmp .eq 5, 3, 0), (169, .iconst 0, 1, 0), (170, .ireturn, 1, 0), (171, .iinc 2 (-1), 3, 0), (174, .aload_n 0, 1, 0), (175, .iload_n 1, 1, 0), (176, .iconst 1, 1, 0), (177, .iadd, 1, 0), (178, .invokevirtual 135, 3, 27), (181, .istore_n 1, 1, 0), (182, .iload_n 1, 1, 0), (183, .ifCond .ge 5, 3, 0), (186, .iconst 0, 1, 0), (187, .ireturn, 1, 0), (188, .goto 124, 3, 0), (191, .iload_n 2, 1, 0), (192, .ifCond .le 5, 3, 0), (195, .iconst 0, 1, 0), (196, .ireturn, 1, 0), (197, .iload 6, 2, 0), (199, .bipush 46, 2, 0), (201, .if_icmp .ne 22, 3, 0), (204, .aload_n 0, 1, 0), (205, .iload_n 1, 1, 0), (206, .iconst 1, 1, 0), (207, .iadd, 1, 0), (208, .invokevirtual 135, 3, 27), (211, .istore_n 1, 1, 0), (212, .iload_n 1, 1, 0), (213, .ifCond .ge 5, 3, 0), (216, .iconst 0, 1, 0), (217, .ireturn, 1, 0), (218, .iconst 1, 1, 0), (219, .istore_n 3, 1, 0), (220, .goto 92, 3, 0), (223, .iload 6, 2, 0), (225, .bipush 94, 2, 0), (227, .if_icmp .ne 15, 3, 0), (230, .aload_n 0, 1, 0), (231, .iload_n 1, 1, 0), (235, .istore_n 1, 1, 0), (236, .iload_n 1, 1, 0), (237, .ifCond .ge 75, 3, 0), (240, .iconst 0, 1, 0), (241, .ireturn, 1, 0), (242, .iload 6, 2, 0), (244, .bipush 43, 2, 0), (246, .if_icmp .ne 21, 3, 0), (249, .aload_n 0, 1, 0), (250, .dup, 1, 0), (251, .getfield 78, 3, 7), (254, .iconst 1, 1, 0), (255, .iadd, 1, 0), (256, .putfield 78, 3, 7), (259, .iinc 1 1, 3, 0), (262, .iconst 1, 1, 0), (263, .istore_n 3, 1, 0), (264, .goto 48, 3, 0), (267, .iload 6, 2, 0), (269, .bipush 61, 2, 0), (271, .if_icmp .ne 39, 3, 0), (274, .iload 4, 2, 0), (276, .ifCond .eq 5, 3, 0), (279, .iconst 0, 1, 0), (280, .ireturn, 1, 0), (281, .iconst 1, 1, 0), (282, .istore 4, 2, 0), (284, .aload_n 0, 1, 0), (285, .aload_n 0, 1, 0), (286, .getfield 78, 3, 7), (289, .putfield 87, 3, 8), (292, .aload_n 0, 1, 0), (293, .dup, 1, 0), (294, .getfield 78, 3, 7), (297, .iconst 1, 1, 0), (298, .iadd, 1, 0), (299, .putfield 78, 3, 7), (302, .iinc 1 1, 3, 0), (305, .iconst 1, 1, 0), (306, .istore_n 3, 1, 0), (307, .goto 5, 3, 0), (310, .iconst 0, 1, 0), (311, .ireturn, 1, 0), (312, .iinc 5 1, 3, 0), (315, .goto (-288), 3, 0), (318, .iload_n 1, 1, 0), (319, .aload_n 0, 1, 0), (320, .getfield 63, 3, 3), (323, .if_icmp .ne 20, 3, 0), (326, .iload_n 3, 1, 0), (327, .ifCond .ne 16, 3, 0), (330, .iload_n 2, 1, 0), (331, .ifCond .ne 12, 3, 0), (334, .iload 4, 2, 0), (336, .ifCond .eq 7, 3, 0), (339, .iconst 1, 1, 0), (340, .goto 4, 3, 0), (343, .iconst 0, 1, 0), (344, .ireturn, 1, 0)]
def r25 : List Row := [(0, .aload_n 0, 1, 0), (1, .getfield 7, 3, 2), (4, .iload_n 1, 1, 0), (5, .iaload, 1, 0), (6, .bipush 65, 2, 0), (8, .isub, 1, 0), (9, .bipush 27, 2, 0), (11, .imul, 1, 0), (12, .istore_n 2, 1, 0), (13, .iload_n 1, 1, 0), (14, .iconst 1, 1, 0), (15, .iadd, 1, 0), (16, .istore_n 3, 1, 0), (17, .iload_n 3, 1, 0), (18, .aload_n 0, 1, 0), (19, .getfield 63, 3, 3), (22, .if_icmp .ge 33, 3, 0), (25, .aload_n 0, 1, 0), (26, .aload_n 0, 1, 0), (27, .getfield 7, 3, 2), (30, .iload_n 3, 1, 0), (31, .iaload, 1, 0), (32, .invokevirtual 125, 3, 21), (35, .ifCond .eq 20, 3, 0), (38, .iload_n 2, 1, 0), (39, .aload_n 0, 1, 0), (40, .getfield 7, 3, 2), (43, .iload_n 3, 1, 0), (44, .iaload, 1, 0), (45, .bipush 97, 2, 0), (47, .isub, 1, 0), (48, .iconst 1, 1, 0), (49, .iadd, 1, 0), (50, .iadd, 1, 0), (51, .istore_n 2, 1, 0), (52, .iinc 3 1, 3, 0), (55, .aload_n 0, 1, 0), (56, .iload_n 2, 1, 0), (57, .invokevirtual 141, 3, 26), (60, .aload_n 0, 1, 0), (61, .iload_n 3, 1, 0), (62, .invokevirtual 135, 3, 27), (65, .ireturn, 1, 0)]
def r26 : List Row := [(0, .iconst 0, 1, 0), (1, .istore_n 2, 1, 0), (2, .iload_n 2, 1, 0), (3, .aload_n 0, 1, 0), (4, .getfield 81, 3, 6), (7, .if_icmp .ge 26, 3, 0), (10, .iload_n 2, 1, 0), (11, .bipush 96, 2, 0), (13, .if_icmp .ge 20, 3, 0), (16, .aload_n 0, 1, 0), (17, .getfield 16, 3, 5), (20, .iload_n 2, 1, 0), (21, .iaload, 1, 0), (22, .iload_n 1, 1, 0), (23, .if_icmp .ne 4, 3, 0), (26, .return_, 1, 0), (27, .iinc 2 1, 3, 0), (30, .goto (-28), 3, 0), (33, .aload_n 0, 1, 0), (34, .getfield 81, 3, 6), (37, .bipush 96, 2, 0), (39, .if_icmp .ge 23, 3, 0), (42, .aload_n 0, 1, 0), (43, .getfield 16, 3, 5), (46, .aload_n 0, 1, 0), (47, .getfield 81, 3, 6), (50, .iload_n 1, 1, 0), (51, .iastore, 1, 0), (52, .aload_n 0, 1, 0), (53, .dup, 1, 0), (54, .getfield 81, 3, 6), (57, .iconst 1, 1, 0), (58, .iadd, 1, 0), (59, .putfield 81, 3, 6), (62, .return_, 1, 0)]
def r27 : List Row := [(0, .iload_n 1, 1, 0), (1, .ifCond .lt 24, 3, 0), (4, .iload_n 1, 1, 0), (5, .aload_n 0, 1, 0), (6, .getfield 63, 3, 3), (9, .if_icmp .ge 16, 3, 0), (12, .aload_n 0, 1, 0), (13, .aload_n 0, 1, 0), (14, .getfield 7, 3, 2), (17, .iload_n 1, 1, 0), (18, .iaload, 1, 0), (19, .invokevirtual 128, 3, 22), (22, .ifCond .ne 5, 3, 0), (25, .iload_n 1, 1, 0), (26, .ireturn, 1, 0), (27, .aload_n 0, 1, 0), (28, .getfield 7, 3, 2), (31, .iload_n 1, 1, 0), (32, .iaload, 1, 0), (33, .bipush 48, 2, 0), (35, .if_icmp .ne 5, 3, 0), (38, .iconst (-1), 1, 0), (39, .ireturn, 1, 0), (40, .iload_n 1, 1, 0), (41, .iconst 1, 1, 0), (42, .iadd, 1, 0), (43, .aload_n 0, 1, 0), (44, .getfield 63, 3, 3), (47, .if_icmp .ge 49, 3, 0), (50, .aload_n 0, 1, 0), (51, .aload_n 0, 1, 0), (52, .getfield 7, 3, 2), (55, .iload_n 1, 1, 0), (56, .iconst 1, 1, 0), (57, .iadd, 1, 0), (58, .iaload, 1, 0), (59, .invokevirtual 128, 3, 22), (62, .ifCond .eq 34, 3, 0), (65, .iload_n 1, 1, 0), (66, .iconst 2, 1, 0), (67, .iadd, 1, 0), (68, .aload_n 0, 1, 0), (69, .getfield 63, 3, 3), (72, .if_icmp .ge 20, 3, 0), (75, .aload_n 0, 1, 0), (76, .aload_n 0, 1, 0), (77, .getfield 7, 3, 2), (80, .iload_n 1, 1, 0), (81, .iconst 2, 1, 0), (82, .iadd, 1, 0), (83, .iaload, 1, 0), (84, .invokevirtual 128, 3, 22), (87, .ifCond .eq 5, 3, 0), (90, .iconst (-1), 1, 0), (91, .ireturn, 1, 0), (92, .iload_n 1, 1, 0), (93, .iconst 2, 1, 0), (94, .iadd, 1, 0), (95, .ireturn, 1, 0), (96, .iload_n 1, 1, 0), (97, .iconst 1, 1, 0), (98, .iadd, 1, 0), (99, .ireturn, 1, 0)]
def r29 : List Row := [(0, .iconst 0, 1, 0), (1, .istore_n 1, 1, 0), (2, .iload_n 1, 1, 0), (3, .bipush 48, 2, 0), (5, .if_icmp .ge 16, 3, 0), (8, .aload_n 0, 1, 0), (9, .getfield 35, 3, 19), (12, .iload_n 1, 1, 0), (13, .lconst 0, 1, 0), (14, .lastore, 1, 0), (15, .iinc 1 1, 3, 0), (18, .goto (-16), 3, 0), (21, .iconst 0, 1, 0), (22, .istore_n 1, 1, 0), (23, .iload_n 1, 1, 0), (24, .bipush 40, 2, 0), (26, .if_icmp .ge 16, 3, 0), (29, .aload_n 0, 1, 0), (30, .getfield 38, 3, 20), (33, .iload_n 1, 1, 0), (34, .lconst 0, 1, 0), (35, .lastore, 1, 0), (36, .iinc 1 1, 3, 0), (39, .goto (-16), 3, 0), (42, .iconst 0, 1, 0), (43, .istore_n 1, 1, 0), (44, .iload_n 1, 1, 0), (45, .bipush 6, 2, 0), (47, .if_icmp .ge 16, 3, 0), (50, .aload_n 0, 1, 0), (51, .getfield 25, 3, 16), (54, .iload_n 1, 1, 0), (55, .iconst 0, 1, 0), (56, .iastore, 1, 0), (57, .iinc 1 1, 3, 0), (60, .goto (-16), 3, 0), (63, .iconst 0, 1, 0), (64, .istore_n 1, 1, 0), (65, .iconst 0, 1, 0), (66, .istore_n 2, 1, 0), (67, .iconst 0, 1, 0), (68, .istore_n 3, 1, 0), (69, .lconst 1, 1, 0), (70, .lstore 4, 2, 0), (72, .iconst 0, 1, 0), (73, .istore 6, 2, 0), (75, .iload 6, 2, 0), (77, .bipush 97, 2, 0), (79, .if_icmp .ge 168, 3, 0), (82, .iload_n 1, 1, 0), (83, .aload_n 0, 1, 0), (84, .getfield 63, 3, 3), (87, .if_icmp .ge 160, 3, 0), (90, .aload_n 0, 1, 0), (91, .getfield 7, 3, 2), (94, .iload_n 1, 1, 0), (95, .iaload, 1, 0), (96, .istore 7, 2, 0), (98, .aload_n 0, 1, 0), (99, .iload 7, 2, 0), (101, .invokevirtual 122, 3, 20), (104, .ifCond .eq 13, 3, 0), (107, .aload_n 0, 1, 0), (108, .iload_n 1, 1, 0), (109, .iload_n 3, 1, 0), (110, .invokevirtual 145, 3, 30), (113, .istore_n 1, 1, 0), (114, .goto 127, 3, 0), (117, .iload 7, 2, 0), (119, .bipush 40, 2, 0), (121, .if_icmp .eq 10, 3, 0), (124, .iload 7, 2, 0), (126, .bipush 91, 2, 0), (128, .if_icmp .ne 17, 3, 0), (131, .iload_n 3, 1, 0), (132, .iconst 4, 1, 0), (133, .if_icmp .ge 6, 3, 0), (136, .iinc 3 1, 3, 0), (139, .iinc 1 1, 3, 0), (142, .goto 99, 3, 0), (145, .iload 7, 2, 0), (147, .bipush 41, 2, 0), (149, .if_icmp .eq 10, 3, 0), (152, .iload 7, 2, 0), (154, .bipush 93, 2, 0), (156, .if_icmp .ne 20, 3, 0), (159, .aload_n 0, 1, 0), (160, .iload_n 1, 1, 0), (161, .iload_n 3, 1, 0), (165, .istore_n 1, 1, 0), (166, .iload_n 3, 1, 0), (167, .ifCond .le 74, 3, 0), (170, .iinc 3 (-1), 3, 0), (173, .goto 68, 3, 0), (176, .iload 7, 2, 0), (178, .bipush 46, 2, 0), (180, .if_icmp .ne 28, 3, 0), (183, .aload_n 0, 1, 0), (184, .iload_n 2, 1, 0), (185, .lload 4, 2, 0), (187, .invokevirtual 151, 3, 33), (190, .aload_n 0, 1, 0), (191, .iload_n 1, 1, 0), (192, .iconst 1, 1, 0), (193, .iadd, 1, 0), (194, .invokevirtual 155, 3, 34), (197, .i2l, 1, 0), (198, .lstore 4, 2, 0), (200, .aload_n 0, 1, 0), (201, .getfield 158, 3, 9), (204, .istore_n 1, 1, 0), (205, .goto 36, 3, 0), (208, .iload 7, 2, 0), (210, .bipush 94, 2, 0), (212, .if_icmp .ne 13, 3, 0), (215, .aload_n 0, 1, 0), (216, .iload_n 1, 1, 0), (217, .iload_n 2, 1, 0), (221, .istore_n 1, 1, 0), (222, .goto 19, 3, 0), (225, .aload_n 0, 1, 0), (226, .iload_n 2, 1, 0), (227, .lload 4, 2, 0), (229, .invokevirtual 151, 3, 33), (232, .lconst 1, 1, 0), (233, .lstore 4, 2, 0), (235, .iinc 2 1, 3, 0), (238, .iinc 1 1, 3, 0), (241, .iinc 6 1, 3, 0), (244, .goto (-169), 3, 0), (247, .aload_n 0, 1, 0), (248, .iload_n 2, 1, 0), (249, .lload 4, 2, 0), (251, .invokevirtual 151, 3, 33), (254, .return_, 1, 0)]
def r30 : List Row := [(0, .aload_n 0, 1, 0), (1, .getfield 7, 3, 2), (4, .iload_n 1, 1, 0), (5, .iaload, 1, 0), (6, .bipush 65, 2, 0), (8, .isub, 1, 0), (9, .bipush 27, 2, 0), (11, .imul, 1, 0), (12, .istore_n 3, 1, 0), (13, .iload_n 1, 1, 0), (14, .iconst 1, 1, 0), (15, .iadd, 1, 0), (16, .istore 4, 2, 0), (18, .iload 4, 2, 0), (20, .aload_n 0, 1, 0), (21, .getfield 63, 3, 3), (24, .if_icmp .ge 35, 3, 0), (27, .aload_n 0, 1, 0), (28, .aload_n 0, 1, 0), (29, .getfield 7, 3, 2), (32, .iload 4, 2, 0), (34, .iaload, 1, 0), (35, .invokevirtual 125, 3, 21), (38, .ifCond .eq 21, 3, 0), (41, .iload_n 3, 1, 0), (42, .aload_n 0, 1, 0), (43, .getfield 7, 3, 2), (46, .iload 4, 2, 0), (48, .iaload, 1, 0), (49, .bipush 97, 2, 0), (51, .isub, 1, 0), (52, .iconst 1, 1, 0), (53, .iadd, 1, 0), (54, .iadd, 1, 0), (55, .istore_n 3, 1, 0), (56, .iinc 4 1, 3, 0), (59, .aload_n 0, 1, 0), (60, .iload_n 3, 1, 0), (61, .invokevirtual 164, 3, 35), (64, .istore 5, 2, 0), (66, .aload_n 0, 1, 0), (67, .iload 4, 2, 0), (69, .invokevirtual 155, 3, 34), (72, .istore 6, 2, 0), (74, .iload 5, 2, 0), (76, .ifCond .lt 30, 3, 0), (79, .iload_n 2, 1, 0), (80, .ifCond .lt 26, 3, 0), (83, .iload_n 2, 1, 0), (84, .iconst 4, 1, 0), (85, .if_icmp .gt 21, 3, 0), (88, .aload_n 0, 1, 0), (89, .getfield 38, 3, 20), (92, .iload_n 2, 1, 0), (93, .bipush 8, 2, 0), (95, .imul, 1, 0), (96, .iload 5, 2, 0), (98, .iadd, 1, 0), (99, .dup2, 1, 0), (100, .laload, 1, 0), (101, .iload 6, 2, 0), (103, .i2l, 1, 0), (104, .ladd, 1, 0), (105, .lastore, 1, 0), (106, .aload_n 0, 1, 0), (107, .getfield 158, 3, 9), (110, .ireturn, 1, 0)]
def r33 : List Row := [(0, .iconst 0, 1, 0), (1, .istore 4, 2, 0), (3, .iload 4, 2, 0), (5, .bipush 8, 2, 0), (7, .if_icmp .ge 51, 3, 0), (10, .iload_n 1, 1, 0), (11, .ifCond .lt 33, 3, 0), (14, .iload_n 1, 1, 0), (15, .bipush 6, 2, 0), (17, .if_icmp .ge 27, 3, 0), (20, .aload_n 0, 1, 0), (21, .getfield 35, 3, 19), (24, .iload_n 1, 1, 0), (25, .bipush 8, 2, 0), (27, .imul, 1, 0), (28, .iload 4, 2, 0), (30, .iadd, 1, 0), (31, .dup2, 1, 0), (32, .laload, 1, 0), (33, .aload_n 0, 1, 0), (34, .getfield 38, 3, 20), (37, .iload 4, 2, 0), (39, .laload, 1, 0), (40, .lload_n 2, 1, 0), (41, .lmul, 1, 0), (42, .ladd, 1, 0), (43, .lastore, 1, 0), (44, .aload_n 0, 1, 0), (45, .getfield 38, 3, 20), (48, .iload 4, 2, 0), (50, .lconst 0, 1, 0), (51, .lastore, 1, 0), (52, .iinc 4 1, 3, 0), (55, .goto (-52), 3, 0), (58, .return_, 1, 0)]
def r34 : List Row := [(0, .iload_n 1, 1, 0), (1, .ifCond .lt 24, 3, 0), (4, .iload_n 1, 1, 0), (5, .aload_n 0, 1, 0), (6, .getfield 63, 3, 3), (9, .if_icmp .ge 16, 3, 0), (12, .aload_n 0, 1, 0), (13, .aload_n 0, 1, 0), (14, .getfield 7, 3, 2), (17, .iload_n 1, 1, 0), (18, .iaload, 1, 0), (19, .invokevirtual 128, 3, 22), (22, .ifCond .ne 10, 3, 0), (25, .aload_n 0, 1, 0), (26, .iload_n 1, 1, 0), (27, .putfield 158, 3, 9), (30, .iconst 1, 1, 0), (31, .ireturn, 1, 0), (32, .aload_n 0, 1, 0), (33, .getfield 7, 3, 2), (36, .iload_n 1, 1, 0), (37, .iaload, 1, 0), (38, .bipush 48, 2, 0), (40, .isub, 1, 0), (41, .istore_n 2, 1, 0), (42, .iload_n 1, 1, 0), (43, .iconst 1, 1, 0), (44, .iadd, 1, 0), (45, .istore_n 3, 1, 0), (46, .iload_n 3, 1, 0), (47, .aload_n 0, 1, 0), (48, .getfield 63, 3, 3), (51, .if_icmp .ge 34, 3, 0), (54, .aload_n 0, 1, 0), (55, .aload_n 0, 1, 0), (56, .getfield 7, 3, 2), (59, .iload_n 3, 1, 0), (60, .iaload, 1, 0), (61, .invokevirtual 128, 3, 22), (64, .ifCond .eq 21, 3, 0), (67, .iload_n 2, 1, 0), (68, .bipush 10, 2, 0), (70, .imul, 1, 0), (71, .aload_n 0, 1, 0), (72, .getfield 7, 3, 2), (75, .iload_n 3, 1, 0), (76, .iaload, 1, 0), (77, .bipush 48, 2, 0), (79, .isub, 1, 0), (80, .iadd, 1, 0), (81, .istore_n 2, 1, 0), (82, .iinc 3 1, 3, 0), (85, .aload_n 0, 1, 0), (86, .iload_n 3, 1, 0), (87, .putfield 158, 3, 9), (90, .iload_n 2, 1, 0), (91, .ireturn, 1, 0)]
def r35 : List Row := [(0, .iconst 0, 1, 0), (1, .istore_n 2, 1, 0), (2, .iload_n 2, 1, 0), (3, .aload_n 0, 1, 0), (4, .getfield 93, 3, 13), (7, .if_icmp .ge 27, 3, 0), (10, .iload_n 2, 1, 0), (11, .bipush 8, 2, 0), (13, .if_icmp .ge 21, 3, 0), (16, .aload_n 0, 1, 0), (17, .getfield 19, 3, 14), (20, .iload_n 2, 1, 0), (21, .iaload, 1, 0), (22, .iload_n 1, 1, 0), (23, .if_icmp .ne 5, 3, 0), (26, .iload_n 2, 1, 0), (27, .ireturn, 1, 0), (28, .iinc 2 1, 3, 0), (31, .goto (-29), 3, 0), (34, .iconst (-1), 1, 0), (35, .ireturn, 1, 0)]
def r36 : List Row := [(0, .iconst 0, 1, 0), (1, .istore_n 1, 1, 0), (2, .iload_n 1, 1, 0), (3, .bipush 6, 2, 0), (5, .if_icmp .ge 94, 3, 0), (8, .iconst 0, 1, 0), (9, .istore_n 2, 1, 0), (10, .iload_n 2, 1, 0), (11, .bipush 8, 2, 0), (13, .if_icmp .ge 80, 3, 0), (16, .aload_n 0, 1, 0), (17, .getfield 35, 3, 19), (20, .iload_n 1, 1, 0), (21, .bipush 8, 2, 0), (23, .imul, 1, 0), (24, .iload_n 2, 1, 0), (25, .iadd, 1, 0), (26, .laload, 1, 0), (27, .lstore_n 3, 1, 0), (28, .iload_n 1, 1, 0), (29, .aload_n 0, 1, 0), (30, .getfield 84, 3, 11), (33, .if_icmp .ge 21, 3, 0), (36, .iload_n 2, 1, 0), (37, .aload_n 0, 1, 0), (38, .getfield 93, 3, 13), (41, .if_icmp .ge 13, 3, 0), (44, .lload_n 3, 1, 0), (45, .ldc2_w 167, 3, 24), (48, .lcmp, 1, 0), (49, .ifCond .le 5, 3, 0), (52, .iconst 0, 1, 0), (53, .ireturn, 1, 0), (54, .aload_n 0, 1, 0), (55, .getfield 22, 3, 15), (58, .iload_n 1, 1, 0), (59, .bipush 8, 2, 0), (61, .imul, 1, 0), (62, .iload_n 2, 1, 0), (63, .iadd, 1, 0), (64, .iload_n 1, 1, 0), (65, .aload_n 0, 1, 0), (66, .getfield 84, 3, 11), (69, .if_icmp .ge 16, 3, 0), (72, .iload_n 2, 1, 0), (73, .aload_n 0, 1, 0), (74, .getfield 93, 3, 13), (77, .if_icmp .ge 8, 3, 0), (80, .lload_n 3, 1, 0), (81, .l2i, 1, 0), (82, .goto 4, 3, 0), (85, .iconst 0, 1, 0), (86, .iastore, 1, 0), (87, .iinc 2 1, 3, 0), (90, .goto (-80), 3, 0), (93, .iinc 1 1, 3, 0), (96, .goto (-94), 3, 0), (99, .iconst 1, 1, 0), (100, .ireturn, 1, 0)]
def r37 : List Row := [(0, .iconst 0, 1, 0), (1, .istore_n 1, 1, 0), (2, .iload_n 1, 1, 0), (3, .bipush 54, 2, 0), (5, .if_icmp .ge 23, 3, 0), (8, .aload_n 0, 1, 0), (9, .getfield 41, 3, 21), (12, .iload_n 1, 1, 0), (13, .lconst 0, 1, 0), (14, .lastore, 1, 0), (15, .aload_n 0, 1, 0), (16, .getfield 44, 3, 22), (19, .iload_n 1, 1, 0), (20, .lconst 0, 1, 0), (21, .lastore, 1, 0), (22, .iinc 1 1, 3, 0), (25, .goto (-23), 3, 0), (28, .iconst 0, 1, 0), (29, .istore_n 1, 1, 0), (30, .iload_n 1, 1, 0), (31, .aload_n 0, 1, 0), (32, .getfield 93, 3, 13), (35, .if_icmp .gt 103, 3, 0), (38, .iload_n 1, 1, 0), (39, .bipush 9, 2, 0), (41, .if_icmp .ge 97, 3, 0), (44, .iconst 0, 1, 0), (45, .istore_n 2, 1, 0), (46, .iload_n 2, 1, 0), (47, .aload_n 0, 1, 0), (48, .getfield 84, 3, 11), (51, .if_icmp .ge 81, 3, 0), (54, .iload_n 2, 1, 0), (55, .bipush 6, 2, 0), (57, .if_icmp .ge 75, 3, 0), (60, .iload_n 1, 1, 0), (61, .aload_n 0, 1, 0), (62, .getfield 93, 3, 13), (65, .if_icmp .ge 18, 3, 0), (68, .aload_n 0, 1, 0), (69, .getfield 22, 3, 15), (72, .iload_n 2, 1, 0), (73, .bipush 8, 2, 0), (75, .imul, 1, 0), (76, .iload_n 1, 1, 0), (77, .iadd, 1, 0), (78, .iaload, 1, 0), (79, .i2l, 1, 0), (80, .goto 10, 3, 0), (83, .aload_n 0, 1, 0), (84, .getfield 25, 3, 16), (87, .iload_n 2, 1, 0), (88, .iaload, 1, 0), (89, .i2l, 1, 0), (90, .lstore_n 3, 1, 0), (91, .iload_n 2, 1, 0), (92, .aload_n 0, 1, 0), (93, .getfield 90, 3, 12), (96, .if_icmp .lt 6, 3, 0), (99, .lload_n 3, 1, 0), (100, .lneg, 1, 0), (101, .lstore_n 3, 1, 0), (102, .aload_n 0, 1, 0), (103, .getfield 41, 3, 21), (106, .iload_n 1, 1, 0), (107, .bipush 6, 2, 0), (109, .imul, 1, 0), (110, .iload_n 2, 1, 0), (111, .iadd, 1, 0), (112, .lload_n 3, 1, 0), (113, .lastore, 1, 0), (114, .aload_n 0, 1, 0), (115, .getfield 44, 3, 22), (118, .iload_n 1, 1, 0), (119, .bipush 6, 2, 0), (121, .imul, 1, 0), (122, .iload_n 2, 1, 0), (123, .iadd, 1, 0), (124, .lload_n 3, 1, 0), (125, .lastore, 1, 0), (126, .iinc 2 1, 3, 0), (129, .goto (-83), 3, 0), (132, .iinc 1 1, 3, 0), (135, .goto (-105), 3, 0), (138, .return_, 1, 0)]
def r38 : List Row := [(0, .aload_n 0, 1, 0), (1, .iconst 1, 1, 0), (2, .putfield 169, 3, 26), (5, .aload_n 0, 1, 0), (6, .lconst 0, 1, 0), (7, .putfield 172, 3, 27), (10, .iconst 0, 1, 0), (11, .istore_n 3, 1, 0), (12, .iload_n 3, 1, 0), (13, .bipush 9, 2, 0), (15, .if_icmp .ge 16, 3, 0), (18, .aload_n 0, 1, 0), (19, .getfield 47, 3, 23), (22, .iload_n 3, 1, 0), (23, .iload_n 3, 1, 0), (24, .iastore, 1, 0), (25, .iinc 3 1, 3, 0), (28, .goto (-16), 3, 0), (31, .iconst 0, 1, 0), (32, .istore_n 3, 1, 0), (33, .lconst 1, 1, 0), (34, .lstore 4, 2, 0), (36, .iconst 0, 1, 0), (37, .istore 6, 2, 0), (39, .iload 6, 2, 0), (41, .iload_n 2, 1, 0), (42, .if_icmp .ge 119, 3, 0), (45, .iload 6, 2, 0), (47, .bipush 6, 2, 0), (49, .if_icmp .ge 112, 3, 0), (52, .iload_n 3, 1, 0), (53, .iload_n 1, 1, 0), (54, .if_icmp .ge 107, 3, 0), (57, .iload_n 3, 1, 0), (58, .bipush 9, 2, 0), (60, .if_icmp .ge 101, 3, 0), (63, .aload_n 0, 1, 0), (64, .iload_n 3, 1, 0), (65, .iload_n 1, 1, 0), (66, .iload 6, 2, 0), (68, .invokevirtual 176, 3, 39), (71, .istore 7, 2, 0), (73, .iload 7, 2, 0), (75, .ifCond .lt 80, 3, 0), (78, .iload 7, 2, 0), (80, .iload_n 3, 1, 0), (81, .if_icmp .eq 10, 3, 0), (84, .aload_n 0, 1, 0), (85, .iload 7, 2, 0), (87, .iload_n 3, 1, 0), (91, .aload_n 0, 1, 0), (92, .getfield 44, 3, 22), (95, .iload_n 3, 1, 0), (96, .bipush 6, 2, 0), (98, .imul, 1, 0), (99, .iload 6, 2, 0), (101, .iadd, 1, 0), (102, .laload, 1, 0), (103, .lstore 8, 2, 0), (105, .iload_n 3, 1, 0), (106, .iconst 1, 1, 0), (107, .iadd, 1, 0), (108, .istore 10, 2, 0), (110, .iload 10, 2, 0), (112, .iload_n 1, 1, 0), (113, .if_icmp .ge 29, 3, 0), (116, .iload 10, 2, 0), (118, .bipush 9, 2, 0), (120, .if_icmp .ge 22, 3, 0), (123, .aload_n 0, 1, 0), (124, .iload 10, 2, 0), (126, .iload_n 3, 1, 0), (127, .iload 6, 2, 0), (129, .lload 8, 2, 0), (131, .lload 4, 2, 0), (133, .invokevirtual 184, 3, 41), (136, .iinc 10 1, 3, 0), (139, .goto (-29), 3, 0), (142, .lload 8, 2, 0), (144, .lstore 4, 2, 0), (146, .aload_n 0, 1, 0), (147, .lload 8, 2, 0), (149, .putfield 172, 3, 27), (152, .iinc 3 1, 3, 0), (155, .iinc 6 1, 3, 0), (158, .goto (-119), 3, 0), (161, .iload_n 3, 1, 0), (162, .ireturn, 1, 0)]
def r39 : List Row := [(0, .iload_n 1, 1, 0), (1, .istore 4, 2, 0), (3, .iload 4, 2, 0), (5, .iload_n 2, 1, 0), (6, .if_icmp .ge 36, 3, 0), (9, .iload 4, 2, 0), (11, .bipush 9, 2, 0), (13, .if_icmp .ge 29, 3, 0), (16, .aload_n 0, 1, 0), (17, .getfield 44, 3, 22), (20, .iload 4, 2, 0), (22, .bipush 6, 2, 0), (24, .imul, 1, 0), (25, .iload_n 3, 1, 0), (26, .iadd, 1, 0), (27, .laload, 1, 0), (28, .lconst 0, 1, 0), (29, .lcmp, 1, 0), (30, .ifCond .eq 6, 3, 0), (33, .iload 4, 2, 0), (35, .ireturn, 1, 0), (36, .iinc 4 1, 3, 0), (39, .goto (-36), 3, 0), (42, .iconst (-1), 1, 0), (43, .ireturn, 1, 0)]
def r41 : List Row := [(0, .lload 6, 2, 0), (2, .lconst 0, 1, 0), (3, .lcmp, 1, 0), (4, .ifCond .ne 4, 3, 0), (7, .return_, 1, 0), (8, .aload_n 0, 1, 0), (9, .getfield 44, 3, 22), (12, .iload_n 1, 1, 0), (13, .bipush 6, 2, 0), (15, .imul, 1, 0), (16, .iload_n 3, 1, 0), (17, .iadd, 1, 0), (18, .laload, 1, 0), (19, .lstore 8, 2, 0), (21, .iconst 0, 1, 0), (22, .istore 10, 2, 0), (24, .iload 10, 2, 0), (26, .bipush 6, 2, 0), (28, .if_icmp .ge 55, 3, 0), (31, .aload_n 0, 1, 0), (32, .getfield 44, 3, 22), (35, .iload_n 1, 1, 0), (36, .bipush 6, 2, 0), (38, .imul, 1, 0), (39, .iload 10, 2, 0), (41, .iadd, 1, 0), (42, .lload 4, 2, 0), (44, .aload_n 0, 1, 0), (45, .getfield 44, 3, 22), (48, .iload_n 1, 1, 0), (49, .bipush 6, 2, 0), (51, .imul, 1, 0), (52, .iload 10, 2, 0), (54, .iadd, 1, 0), (55, .laload, 1, 0), (56, .lmul, 1, 0), (57, .lload 8, 2, 0), (59, .aload_n 0, 1, 0), (60, .getfield 44, 3, 22), (63, .iload_n 2, 1, 0), (64, .bipush 6, 2, 0), (66, .imul, 1, 0), (67, .iload 10, 2, 0), (69, .iadd, 1, 0), (70, .laload, 1, 0), (71, .lmul, 1, 0), (72, .lsub, 1, 0), (73, .lload 6, 2, 0), (75, .ldiv, 1, 0), (76, .lastore, 1, 0), (77, .iinc 10 1, 3, 0), (80, .goto (-56), 3, 0), (83, .return_, 1, 0)]
def r42 : List Row := [(0, .iconst 0, 1, 0), (1, .istore_n 2, 1, 0), (2, .iload_n 2, 1, 0), (3, .iload_n 1, 1, 0), (4, .if_icmp .ge 27, 3, 0), (7, .iload_n 2, 1, 0), (8, .bipush 9, 2, 0), (10, .if_icmp .ge 21, 3, 0), (13, .aload_n 0, 1, 0), (14, .getfield 50, 3, 24), (17, .iload_n 2, 1, 0), (18, .aload_n 0, 1, 0), (19, .getfield 47, 3, 23), (22, .iload_n 2, 1, 0), (23, .iaload, 1, 0), (24, .iastore, 1, 0), (25, .iinc 2 1, 3, 0), (28, .goto (-26), 3, 0), (31, .iconst 0, 1, 0), (32, .istore_n 2, 1, 0), (33, .iload_n 2, 1, 0), (34, .aload_n 0, 1, 0), (35, .getfield 84, 3, 11), (38, .if_icmp .ge 27, 3, 0), (41, .iload_n 2, 1, 0), (42, .bipush 6, 2, 0), (44, .if_icmp .ge 21, 3, 0), (47, .aload_n 0, 1, 0), (48, .getfield 53, 3, 25), (51, .iload_n 2, 1, 0), (52, .aload_n 0, 1, 0), (53, .iload_n 1, 1, 0), (54, .iload_n 2, 1, 0), (55, .invokevirtual 188, 3, 43), (58, .lastore, 1, 0), (59, .iinc 2 1, 3, 0), (62, .goto (-29), 3, 0), (65, .aload_n 0, 1, 0), (66, .invokevirtual 192, 3, 45), (69, .ireturn, 1, 0)]
def r43 : List Row := [(0, .aload_n 0, 1, 0), (1, .iload_n 1, 1, 0), (2, .iload_n 2, 1, 0), (3, .invokevirtual 195, 3, 44), (6, .aload_n 0, 1, 0), (7, .iload_n 1, 1, 0), (8, .iload_n 1, 1, 0), (9, .invokevirtual 105, 3, 38), (12, .istore_n 3, 1, 0), (13, .iload_n 3, 1, 0), (14, .iload_n 1, 1, 0), (15, .if_icmp .ne 16, 3, 0), (18, .aload_n 0, 1, 0), (19, .getfield 169, 3, 26), (22, .i2l, 1, 0), (23, .aload_n 0, 1, 0), (24, .getfield 172, 3, 27), (27, .lmul, 1, 0), (28, .goto 4, 3, 0), (31, .lconst 0, 1, 0), (32, .lstore 4, 2, 0), (34, .iload_n 2, 1, 0), (35, .iconst 2, 1, 0), (36, .irem, 1, 0), (37, .ifCond .ne 8, 3, 0), (40, .lload 4, 2, 0), (42, .goto 6, 3, 0), (45, .lload 4, 2, 0), (47, .lneg, 1, 0), (48, .lreturn, 1, 0)]
def r44 : List Row := [(0, .iconst 0, 1, 0), (1, .istore_n 3, 1, 0), (2, .iload_n 3, 1, 0), (3, .bipush 54, 2, 0), (5, .if_icmp .ge 16, 3, 0), (8, .aload_n 0, 1, 0), (9, .getfield 44, 3, 22), (12, .iload_n 3, 1, 0), (13, .lconst 0, 1, 0), (14, .lastore, 1, 0), (15, .iinc 3 1, 3, 0), (18, .goto (-16), 3, 0), (21, .iconst 0, 1, 0), (22, .istore_n 3, 1, 0), (23, .iload_n 3, 1, 0), (24, .iload_n 1, 1, 0), (25, .if_icmp .ge 88, 3, 0), (28, .iload_n 3, 1, 0), (29, .bipush 6, 2, 0), (31, .if_icmp .ge 82, 3, 0), (34, .iconst 0, 1, 0), (35, .istore 4, 2, 0), (37, .iconst 0, 1, 0), (38, .istore 5, 2, 0), (40, .iload 5, 2, 0), (42, .aload_n 0, 1, 0), (43, .getfield 84, 3, 11), (46, .if_icmp .ge 61, 3, 0), (49, .iload 5, 2, 0), (51, .bipush 6, 2, 0), (53, .if_icmp .ge 54, 3, 0), (56, .iload 5, 2, 0), (58, .iload_n 2, 1, 0), (59, .if_icmp .eq 42, 3, 0), (62, .iload 4, 2, 0), (64, .bipush 6, 2, 0), (66, .if_icmp .ge 35, 3, 0), (69, .aload_n 0, 1, 0), (70, .getfield 44, 3, 22), (73, .iload_n 3, 1, 0), (74, .bipush 6, 2, 0), (76, .imul, 1, 0), (77, .iload 4, 2, 0), (79, .iadd, 1, 0), (80, .aload_n 0, 1, 0), (81, .getfield 41, 3, 21), (84, .aload_n 0, 1, 0), (85, .getfield 50, 3, 24), (88, .iload_n 3, 1, 0), (89, .iaload, 1, 0), (90, .bipush 6, 2, 0), (92, .imul, 1, 0), (93, .iload 5, 2, 0), (95, .iadd, 1, 0), (96, .laload, 1, 0), (97, .lastore, 1, 0), (98, .iinc 4 1, 3, 0), (101, .iinc 5 1, 3, 0), (104, .goto (-64), 3, 0), (107, .iinc 3 1, 3, 0), (110, .goto (-87), 3, 0), (113, .return_, 1, 0)]
def r45 : List Row := [(0, .lconst 0, 1, 0), (1, .lstore_n 1, 1, 0), (2, .iconst 0, 1, 0), (3, .istore_n 3, 1, 0), (4, .iload_n 3, 1, 0), (5, .aload_n 0, 1, 0), (6, .getfield 84, 3, 11), (9, .if_icmp .ge 52, 3, 0), (12, .iload_n 3, 1, 0), (13, .bipush 6, 2, 0), (15, .if_icmp .ge 46, 3, 0), (18, .aload_n 0, 1, 0), (19, .getfield 53, 3, 25), (22, .iload_n 3, 1, 0), (23, .laload, 1, 0), (24, .lconst 0, 1, 0), (25, .lcmp, 1, 0), (26, .ifCond .ge 13, 3, 0), (29, .aload_n 0, 1, 0), (30, .getfield 53, 3, 25), (33, .iload_n 3, 1, 0), (34, .laload, 1, 0), (35, .lneg, 1, 0), (36, .goto 9, 3, 0), (39, .aload_n 0, 1, 0), (40, .getfield 53, 3, 25), (43, .iload_n 3, 1, 0), (44, .laload, 1, 0), (45, .lstore 4, 2, 0), (47, .aload_n 0, 1, 0), (48, .lload_n 1, 1, 0), (49, .lload 4, 2, 0), (51, .invokevirtual 198, 3, 46), (54, .lstore_n 1, 1, 0), (55, .iinc 3 1, 3, 0), (58, .goto (-54), 3, 0), (61, .lload_n 1, 1, 0), (62, .lconst 0, 1, 0), (63, .lcmp, 1, 0), (64, .ifCond .gt 5, 3, 0), (67, .iconst 0, 1, 0), (68, .ireturn, 1, 0), (69, .aload_n 0, 1, 0), (70, .getfield 53, 3, 25), (73, .iconst 0, 1, 0), (74, .laload, 1, 0), (75, .lconst 0, 1, 0), (76, .lcmp, 1, 0), (77, .ifCond .ge 9, 3, 0), (80, .ldc2_w 202, 3, (-1)), (83, .goto 4, 3, 0), (86, .lconst 1, 1, 0), (87, .lstore_n 3, 1, 0), (88, .iconst 0, 1, 0), (89, .istore 5, 2, 0), (91, .iload 5, 2, 0), (93, .aload_n 0, 1, 0), (94, .getfield 84, 3, 11), (97, .if_icmp .ge 47, 3, 0), (100, .iload 5, 2, 0), (102, .bipush 6, 2, 0), (104, .if_icmp .ge 40, 3, 0), (107, .aload_n 0, 1, 0), (108, .getfield 53, 3, 25), (111, .iload 5, 2, 0), (113, .laload, 1, 0), (114, .lload_n 3, 1, 0), (115, .lmul, 1, 0), (116, .lstore 6, 2, 0), (118, .lload 6, 2, 0), (120, .lconst 0, 1, 0), (121, .lcmp, 1, 0), (122, .ifCond .gt 5, 3, 0), (125, .iconst 0, 1, 0), (126, .ireturn, 1, 0), (127, .aload_n 0, 1, 0), (128, .getfield 28, 3, 17), (131, .iload 5, 2, 0), (133, .lload 6, 2, 0), (135, .lload_n 1, 1, 0), (136, .ldiv, 1, 0), (137, .lastore, 1, 0), (138, .iinc 5 1, 3, 0), (141, .goto (-50), 3, 0), (144, .iconst 1, 1, 0), (145, .ireturn, 1, 0)]
def r46 : List Row := [(0, .lload_n 1, 1, 0), (1, .lstore 5, 2, 0), (3, .lload_n 3, 1, 0), (4, .lstore 7, 2, 0), (6, .iconst 0, 1, 0), (7, .istore 9, 2, 0), (9, .iload 9, 2, 0), (11, .sipush 200, 3, 0), (14, .if_icmp .ge 31, 3, 0), (17, .lload 7, 2, 0), (19, .lconst 0, 1, 0), (20, .lcmp, 1, 0), (21, .ifCond .eq 24, 3, 0), (24, .lload 5, 2, 0), (26, .lload 7, 2, 0), (28, .lrem, 1, 0), (29, .lstore 10, 2, 0), (31, .lload 7, 2, 0), (33, .lstore 5, 2, 0), (35, .lload 10, 2, 0), (37, .lstore 7, 2, 0), (39, .iinc 9 1, 3, 0), (42, .goto (-33), 3, 0), (45, .lload 5, 2, 0), (47, .lreturn, 1, 0)]
def prows : List (List Row) := [[], r1, r2, [], [], [], r6, r7, r8, r9, r10, r11, [], r13, [], [], [], [], r18, [], r20, r21, r22, r23, r24, r25, r26, r27, [], r29, r30, [], [], r33, r34, r35, r36, r37, r38, r39, [], r41, r42, r43, r44, r45, r46]
def pinfo : List MInfo := [(0, 0, 9, none, {}), (3, 5, 3, none, { frames := 1, cells := 15, slots := 490, locals := 12 }), (2, 2, 1, some .boolean, { frames := 2, cells := 0, slots := 0, locals := 26 }), (1, 1, 1, none, { frames := 0, cells := 0, slots := 0, locals := 0 }), (1, 1, 1, some .int, { frames := 0, cells := 0, slots := 0, locals := 0 }), (2, 2, 1, some .int, { frames := 0, cells := 0, slots := 0, locals := 0 }), (1, 4, 1, some .int, { frames := 4, cells := 0, slots := 0, locals := 77 }), (1, 1, 1, some .int, { frames := 0, cells := 0, slots := 0, locals := 0 }), (1, 1, 1, some .int, { frames := 0, cells := 0, slots := 0, locals := 0 }), (1, 1, 1, some .int, { frames := 0, cells := 0, slots := 0, locals := 0 }), (2, 2, 1, some .int, { frames := 0, cells := 0, slots := 0, locals := 0 }), (3, 3, 1, some .int, { frames := 1, cells := 0, slots := 0, locals := 13 }), (2, 2, 1, some .int, { frames := 1, cells := 0, slots := 0, locals := 13 }), (2, 2, 1, some .long, { frames := 1, cells := 0, slots := 0, locals := 13 }), (3, 3, 1, some .boolean, { frames := 1, cells := 0, slots := 0, locals := 13 }), (2, 7, 1, some .long, { frames := 1, cells := 0, slots := 0, locals := 13 }), (2, 2, 1, some .long, { frames := 1, cells := 0, slots := 0, locals := 13 }), (1, 7, 1, some .int, { frames := 1, cells := 0, slots := 0, locals := 13 }), (2, 2, 2, some .boolean, { frames := 0, cells := 0, slots := 0, locals := 0 }), (2, 2, 2, some .long, { frames := 0, cells := 0, slots := 0, locals := 0 }), (2, 2, 2, some .boolean, { frames := 0, cells := 0, slots := 0, locals := 0 }), (2, 2, 2, some .boolean, { frames := 0, cells := 0, slots := 0, locals := 0 }), (2, 2, 2, some .boolean, { frames := 0, cells := 0, slots := 0, locals := 0 }), (2, 2, 2, some .boolean, { frames := 1, cells := 0, slots := 0, locals := 13 }), (1, 8, 2, some .boolean, { frames := 3, cells := 0, slots := 0, locals := 41 }), (2, 4, 2, some .int, { frames := 2, cells := 0, slots := 0, locals := 26 }), (2, 3, 2, none, { frames := 0, cells := 0, slots := 0, locals := 0 }), (2, 2, 2, some .int, { frames := 1, cells := 0, slots := 0, locals := 13 }), (0, 0, 9, none, {}), (1, 8, 2, none, { frames := 3, cells := 0, slots := 0, locals := 46 }), (3, 7, 2, some .int, { frames := 2, cells := 0, slots := 0, locals := 28 }), (0, 0, 9, none, {}), (0, 0, 9, none, {}), (3, 5, 2, none, { frames := 0, cells := 0, slots := 0, locals := 0 }), (2, 4, 2, some .int, { frames := 1, cells := 0, slots := 0, locals := 13 }), (2, 3, 2, some .int, { frames := 0, cells := 0, slots := 0, locals := 0 }), (1, 5, 2, some .boolean, { frames := 0, cells := 0, slots := 0, locals := 0 }), (1, 5, 2, none, { frames := 0, cells := 0, slots := 0, locals := 0 }), (3, 11, 2, some .int, { frames := 1, cells := 0, slots := 0, locals := 22 }), (4, 5, 2, some .int, { frames := 0, cells := 0, slots := 0, locals := 0 }), (0, 0, 9, none, {}), (6, 11, 2, none, { frames := 0, cells := 0, slots := 0, locals := 0 }), (2, 3, 2, some .boolean, { frames := 3, cells := 0, slots := 0, locals := 63 }), (3, 6, 2, some .long, { frames := 2, cells := 0, slots := 0, locals := 44 }), (3, 6, 2, none, { frames := 0, cells := 0, slots := 0, locals := 0 }), (1, 8, 2, some .boolean, { frames := 1, cells := 0, slots := 0, locals := 23 }), (3, 12, 2, some .long, { frames := 0, cells := 0, slots := 0, locals := 0 })]
def pft : List FieldType := [.int, .int, .array .int, .int, .array .int, .array .int, .int, .int, .int, .int, .boolean, .int, .int, .int, .array .int, .array .int, .array .int, .array .long, .array .long, .array .long, .array .long, .array .long, .array .long, .array .int, .array .int, .array .long, .int, .long]
def pj (lw : LW) : Prog := (fun m pc => if m < 100 then (prows.getD m []).lookup pc else lw.1 (m - 100) pc, fun m => if m < 100 then pinfo.getD m (0, 0, 9, none, {}) else lw.2 (m - 100), fun k => pft.getD k .int, 28)
def lay : Lay := ([(.int, 0), (.int, 0), (.array .int, 1), (.int, 0), (.array .int, 2), (.array .int, 3), (.int, 0), (.int, 0), (.int, 0), (.int, 0), (.boolean, 0), (.int, 0), (.int, 0), (.int, 0), (.array .int, 4), (.array .int, 5), (.array .int, 6), (.array .long, 7), (.array .long, 8), (.array .long, 9), (.array .long, 10), (.array .long, 11), (.array .long, 12), (.array .int, 13), (.array .int, 14), (.array .long, 15), (.int, 0), (.long, 0)], [(.int, 96), (.int, 4), (.int, 96), (.int, 8), (.int, 48), (.int, 6), (.long, 6), (.long, 6), (.long, 48), (.long, 40), (.long, 54), (.long, 54), (.int, 9), (.int, 9), (.long, 6)])
abbrev ob (H : AH) (p : Nat) (s : St) : AH := put lay 15 H p s
section Acc
variable {H : AH} {p : Nat} {s : St} {i : Int32} {j q : Nat} {v : Int32} {w : Int64}
theorem g0 : fld (put lay j H p s) p 0 = .int (sI s 0) := fld_I (ty := .int) rfl (by decide) (by simp)
theorem s0 : wr (put lay j H p s) p 0 (.int v) = put lay j H p (uI s 0 v) := wr_I (ty := .int) rfl (by decide) (by simp)
theorem g1 : fld (put lay j H p s) p 1 = .int (sI s 1) := fld_I (ty := .int) rfl (by decide) (by simp)
theorem s1 : wr (put lay j H p s) p 1 (.int v) = put lay j H p (uI s 1 v) := wr_I (ty := .int) rfl (by decide) (by simp)
theorem g2 : fld (ob H p s) p 2 = .ref (p + 1) := fld_R (ty := .int) rfl (by decide)
theorem g3 : fld (put lay j H p s) p 3 = .int (sI s 3) := fld_I (ty := .int) rfl (by decide) (by simp)
theorem s3 : wr (put lay j H p s) p 3 (.int v) = put lay j H p (uI s 3 v) := wr_I (ty := .int) rfl (by decide) (by simp)
theorem g4 : fld (ob H p s) p 4 = .ref (p + 2) := fld_R (ty := .int) rfl (by decide)
theorem g5 : fld (ob H p s) p 5 = .ref (p + 3) := fld_R (ty := .int) rfl (by decide)
theorem g6 : fld (put lay j H p s) p 6 = .int (sI s 6) := fld_I (ty := .int) rfl (by decide) (by simp)
theorem s6 : wr (put lay j H p s) p 6 (.int v) = put lay j H p (uI s 6 v) := wr_I (ty := .int) rfl (by decide) (by simp)
theorem g7 : fld (put lay j H p s) p 7 = .int (sI s 7) := fld_I (ty := .int) rfl (by decide) (by simp)
theorem s7 : wr (put lay j H p s) p 7 (.int v) = put lay j H p (uI s 7 v) := wr_I (ty := .int) rfl (by decide) (by simp)
theorem g8 : fld (put lay j H p s) p 8 = .int (sI s 8) := fld_I (ty := .int) rfl (by decide) (by simp)
theorem s8 : wr (put lay j H p s) p 8 (.int v) = put lay j H p (uI s 8 v) := wr_I (ty := .int) rfl (by decide) (by simp)
theorem g9 : fld (put lay j H p s) p 9 = .int (sI s 9) := fld_I (ty := .int) rfl (by decide) (by simp)
theorem s9 : wr (put lay j H p s) p 9 (.int v) = put lay j H p (uI s 9 v) := wr_I (ty := .int) rfl (by decide) (by simp)
theorem g10 : fld (put lay j H p s) p 10 = .int (sI s 10) := fld_I (ty := .boolean) rfl (by decide) (by simp)
theorem s10 : wr (put lay j H p s) p 10 (.int v) = put lay j H p (uI s 10 v) := wr_I (ty := .boolean) rfl (by decide) (by simp)
theorem g11 : fld (put lay j H p s) p 11 = .int (sI s 11) := fld_I (ty := .int) rfl (by decide) (by simp)
theorem s11 : wr (put lay j H p s) p 11 (.int v) = put lay j H p (uI s 11 v) := wr_I (ty := .int) rfl (by decide) (by simp)
theorem g12 : fld (put lay j H p s) p 12 = .int (sI s 12) := fld_I (ty := .int) rfl (by decide) (by simp)
theorem s12 : wr (put lay j H p s) p 12 (.int v) = put lay j H p (uI s 12 v) := wr_I (ty := .int) rfl (by decide) (by simp)
theorem g13 : fld (put lay j H p s) p 13 = .int (sI s 13) := fld_I (ty := .int) rfl (by decide) (by simp)
theorem s13 : wr (put lay j H p s) p 13 (.int v) = put lay j H p (uI s 13 v) := wr_I (ty := .int) rfl (by decide) (by simp)
theorem g14 : fld (ob H p s) p 14 = .ref (p + 4) := fld_R (ty := .int) rfl (by decide)
theorem g15 : fld (ob H p s) p 15 = .ref (p + 5) := fld_R (ty := .int) rfl (by decide)
theorem g16 : fld (ob H p s) p 16 = .ref (p + 6) := fld_R (ty := .int) rfl (by decide)
theorem g17 : fld (ob H p s) p 17 = .ref (p + 7) := fld_R (ty := .long) rfl (by decide)
theorem g18 : fld (ob H p s) p 18 = .ref (p + 8) := fld_R (ty := .long) rfl (by decide)
theorem g19 : fld (ob H p s) p 19 = .ref (p + 9) := fld_R (ty := .long) rfl (by decide)
theorem g20 : fld (ob H p s) p 20 = .ref (p + 10) := fld_R (ty := .long) rfl (by decide)
theorem g21 : fld (ob H p s) p 21 = .ref (p + 11) := fld_R (ty := .long) rfl (by decide)
theorem g22 : fld (ob H p s) p 22 = .ref (p + 12) := fld_R (ty := .long) rfl (by decide)
theorem g23 : fld (ob H p s) p 23 = .ref (p + 13) := fld_R (ty := .int) rfl (by decide)
theorem g24 : fld (ob H p s) p 24 = .ref (p + 14) := fld_R (ty := .int) rfl (by decide)
theorem g25 : fld (ob H p s) p 25 = .ref (p + 15) := fld_R (ty := .long) rfl (by decide)
theorem g26 : fld (put lay j H p s) p 26 = .int (sI s 26) := fld_I (ty := .int) rfl (by decide) (by simp)
theorem s26 : wr (put lay j H p s) p 26 (.int v) = put lay j H p (uI s 26 v) := wr_I (ty := .int) rfl (by decide) (by simp)
theorem g27 : fld (put lay j H p s) p 27 = .long (sJ s 27) := fld_J rfl
theorem s27 : wr (put lay j H p s) p 27 (.long w) = put lay j H p (uJ s 27 w) := wr_J rfl
theorem ai1 : inA (ob H p s) (p + 1) .int i = true ↔ (0 ≤ i.toInt ∧ i.toInt < 96) := inA_I (t := 0) rfl (by decide) (by decide)
theorem aw1 : inAw (ob H p s) (p + 1) .int i = true ↔ (0 ≤ i.toInt ∧ i.toInt < 96) := inAw_I (t := 0) rfl (by decide) (by decide)
theorem ae1 : elt (ob H p s) (p + 1) i = .int (sA s 1 i.toNatClampNeg) := elt_I (t := 0) (ty := .int) rfl (by decide) (by decide)
theorem as1 : wr (ob H p s) (p + 1) q (.int v) = ob H p (uA s 1 q v) := wr_A (t := 0) (ty := .int) rfl (by decide) (by decide)
theorem ai2 : inA (ob H p s) (p + 2) .int i = true ↔ (0 ≤ i.toInt ∧ i.toInt < 4) := inA_I (t := 1) rfl (by decide) (by decide)
theorem aw2 : inAw (ob H p s) (p + 2) .int i = true ↔ (0 ≤ i.toInt ∧ i.toInt < 4) := inAw_I (t := 1) rfl (by decide) (by decide)
theorem ae2 : elt (ob H p s) (p + 2) i = .int (sA s 2 i.toNatClampNeg) := elt_I (t := 1) (ty := .int) rfl (by decide) (by decide)
theorem as2 : wr (ob H p s) (p + 2) q (.int v) = ob H p (uA s 2 q v) := wr_A (t := 1) (ty := .int) rfl (by decide) (by decide)
theorem ai3 : inA (ob H p s) (p + 3) .int i = true ↔ (0 ≤ i.toInt ∧ i.toInt < 96) := inA_I (t := 2) rfl (by decide) (by decide)
theorem aw3 : inAw (ob H p s) (p + 3) .int i = true ↔ (0 ≤ i.toInt ∧ i.toInt < 96) := inAw_I (t := 2) rfl (by decide) (by decide)
theorem ae3 : elt (ob H p s) (p + 3) i = .int (sA s 3 i.toNatClampNeg) := elt_I (t := 2) (ty := .int) rfl (by decide) (by decide)
theorem as3 : wr (ob H p s) (p + 3) q (.int v) = ob H p (uA s 3 q v) := wr_A (t := 2) (ty := .int) rfl (by decide) (by decide)
theorem ai4 : inA (ob H p s) (p + 4) .int i = true ↔ (0 ≤ i.toInt ∧ i.toInt < 8) := inA_I (t := 3) rfl (by decide) (by decide)
theorem aw4 : inAw (ob H p s) (p + 4) .int i = true ↔ (0 ≤ i.toInt ∧ i.toInt < 8) := inAw_I (t := 3) rfl (by decide) (by decide)
theorem ae4 : elt (ob H p s) (p + 4) i = .int (sA s 4 i.toNatClampNeg) := elt_I (t := 3) (ty := .int) rfl (by decide) (by decide)
theorem as4 : wr (ob H p s) (p + 4) q (.int v) = ob H p (uA s 4 q v) := wr_A (t := 3) (ty := .int) rfl (by decide) (by decide)
theorem ai5 : inA (ob H p s) (p + 5) .int i = true ↔ (0 ≤ i.toInt ∧ i.toInt < 48) := inA_I (t := 4) rfl (by decide) (by decide)
theorem aw5 : inAw (ob H p s) (p + 5) .int i = true ↔ (0 ≤ i.toInt ∧ i.toInt < 48) := inAw_I (t := 4) rfl (by decide) (by decide)
theorem ae5 : elt (ob H p s) (p + 5) i = .int (sA s 5 i.toNatClampNeg) := elt_I (t := 4) (ty := .int) rfl (by decide) (by decide)
theorem as5 : wr (ob H p s) (p + 5) q (.int v) = ob H p (uA s 5 q v) := wr_A (t := 4) (ty := .int) rfl (by decide) (by decide)
theorem ai6 : inA (ob H p s) (p + 6) .int i = true ↔ (0 ≤ i.toInt ∧ i.toInt < 6) := inA_I (t := 5) rfl (by decide) (by decide)
theorem aw6 : inAw (ob H p s) (p + 6) .int i = true ↔ (0 ≤ i.toInt ∧ i.toInt < 6) := inAw_I (t := 5) rfl (by decide) (by decide)
theorem ae6 : elt (ob H p s) (p + 6) i = .int (sA s 6 i.toNatClampNeg) := elt_I (t := 5) (ty := .int) rfl (by decide) (by decide)
theorem as6 : wr (ob H p s) (p + 6) q (.int v) = ob H p (uA s 6 q v) := wr_A (t := 5) (ty := .int) rfl (by decide) (by decide)
theorem ai7 : inA (ob H p s) (p + 7) .long i = true ↔ (0 ≤ i.toInt ∧ i.toInt < 6) := inA_J (t := 6) rfl (by decide)
theorem aw7 : inAw (ob H p s) (p + 7) .long i = true ↔ (0 ≤ i.toInt ∧ i.toInt < 6) := inAw_J (t := 6) rfl (by decide)
theorem ae7 : elt (ob H p s) (p + 7) i = .long (sB s 7 i.toNatClampNeg) := elt_J (t := 6) rfl (by decide)
theorem as7 : wr (ob H p s) (p + 7) q (.long w) = ob H p (uB s 7 q w) := wr_B (t := 6) rfl (by decide)
theorem ai8 : inA (ob H p s) (p + 8) .long i = true ↔ (0 ≤ i.toInt ∧ i.toInt < 6) := inA_J (t := 7) rfl (by decide)
theorem aw8 : inAw (ob H p s) (p + 8) .long i = true ↔ (0 ≤ i.toInt ∧ i.toInt < 6) := inAw_J (t := 7) rfl (by decide)
theorem ae8 : elt (ob H p s) (p + 8) i = .long (sB s 8 i.toNatClampNeg) := elt_J (t := 7) rfl (by decide)
theorem as8 : wr (ob H p s) (p + 8) q (.long w) = ob H p (uB s 8 q w) := wr_B (t := 7) rfl (by decide)
theorem ai9 : inA (ob H p s) (p + 9) .long i = true ↔ (0 ≤ i.toInt ∧ i.toInt < 48) := inA_J (t := 8) rfl (by decide)
theorem aw9 : inAw (ob H p s) (p + 9) .long i = true ↔ (0 ≤ i.toInt ∧ i.toInt < 48) := inAw_J (t := 8) rfl (by decide)
theorem ae9 : elt (ob H p s) (p + 9) i = .long (sB s 9 i.toNatClampNeg) := elt_J (t := 8) rfl (by decide)
theorem as9 : wr (ob H p s) (p + 9) q (.long w) = ob H p (uB s 9 q w) := wr_B (t := 8) rfl (by decide)
theorem ai10 : inA (ob H p s) (p + 10) .long i = true ↔ (0 ≤ i.toInt ∧ i.toInt < 40) := inA_J (t := 9) rfl (by decide)
theorem aw10 : inAw (ob H p s) (p + 10) .long i = true ↔ (0 ≤ i.toInt ∧ i.toInt < 40) := inAw_J (t := 9) rfl (by decide)
theorem ae10 : elt (ob H p s) (p + 10) i = .long (sB s 10 i.toNatClampNeg) := elt_J (t := 9) rfl (by decide)
theorem as10 : wr (ob H p s) (p + 10) q (.long w) = ob H p (uB s 10 q w) := wr_B (t := 9) rfl (by decide)
theorem ai11 : inA (ob H p s) (p + 11) .long i = true ↔ (0 ≤ i.toInt ∧ i.toInt < 54) := inA_J (t := 10) rfl (by decide)
theorem aw11 : inAw (ob H p s) (p + 11) .long i = true ↔ (0 ≤ i.toInt ∧ i.toInt < 54) := inAw_J (t := 10) rfl (by decide)
theorem ae11 : elt (ob H p s) (p + 11) i = .long (sB s 11 i.toNatClampNeg) := elt_J (t := 10) rfl (by decide)
theorem as11 : wr (ob H p s) (p + 11) q (.long w) = ob H p (uB s 11 q w) := wr_B (t := 10) rfl (by decide)
theorem ai12 : inA (ob H p s) (p + 12) .long i = true ↔ (0 ≤ i.toInt ∧ i.toInt < 54) := inA_J (t := 11) rfl (by decide)
theorem aw12 : inAw (ob H p s) (p + 12) .long i = true ↔ (0 ≤ i.toInt ∧ i.toInt < 54) := inAw_J (t := 11) rfl (by decide)
theorem ae12 : elt (ob H p s) (p + 12) i = .long (sB s 12 i.toNatClampNeg) := elt_J (t := 11) rfl (by decide)
theorem as12 : wr (ob H p s) (p + 12) q (.long w) = ob H p (uB s 12 q w) := wr_B (t := 11) rfl (by decide)
theorem ai13 : inA (ob H p s) (p + 13) .int i = true ↔ (0 ≤ i.toInt ∧ i.toInt < 9) := inA_I (t := 12) rfl (by decide) (by decide)
theorem aw13 : inAw (ob H p s) (p + 13) .int i = true ↔ (0 ≤ i.toInt ∧ i.toInt < 9) := inAw_I (t := 12) rfl (by decide) (by decide)
theorem ae13 : elt (ob H p s) (p + 13) i = .int (sA s 13 i.toNatClampNeg) := elt_I (t := 12) (ty := .int) rfl (by decide) (by decide)
theorem as13 : wr (ob H p s) (p + 13) q (.int v) = ob H p (uA s 13 q v) := wr_A (t := 12) (ty := .int) rfl (by decide) (by decide)
theorem ai14 : inA (ob H p s) (p + 14) .int i = true ↔ (0 ≤ i.toInt ∧ i.toInt < 9) := inA_I (t := 13) rfl (by decide) (by decide)
theorem aw14 : inAw (ob H p s) (p + 14) .int i = true ↔ (0 ≤ i.toInt ∧ i.toInt < 9) := inAw_I (t := 13) rfl (by decide) (by decide)
theorem ae14 : elt (ob H p s) (p + 14) i = .int (sA s 14 i.toNatClampNeg) := elt_I (t := 13) (ty := .int) rfl (by decide) (by decide)
theorem as14 : wr (ob H p s) (p + 14) q (.int v) = ob H p (uA s 14 q v) := wr_A (t := 13) (ty := .int) rfl (by decide) (by decide)
theorem ai15 : inA (ob H p s) (p + 15) .long i = true ↔ (0 ≤ i.toInt ∧ i.toInt < 6) := inA_J (t := 14) rfl (by decide)
theorem aw15 : inAw (ob H p s) (p + 15) .long i = true ↔ (0 ≤ i.toInt ∧ i.toInt < 6) := inAw_J (t := 14) rfl (by decide)
theorem ae15 : elt (ob H p s) (p + 15) i = .long (sB s 15 i.toNatClampNeg) := elt_J (t := 14) rfl (by decide)
theorem as15 : wr (ob H p s) (p + 15) q (.long w) = ob H p (uB s 15 q w) := wr_B (t := 14) rfl (by decide)
theorem mkO_ob {lw : LW} : mkO (pj lw) H = put lay 0 (H.1 + 1, H.2) H.1 z0 := mkO_put rfl (fun k => match k with | 0 => rfl | 1 => rfl | 2 => rfl | 3 => rfl | 4 => rfl | 5 => rfl | 6 => rfl | 7 => rfl | 8 => rfl | 9 => rfl | 10 => rfl | 11 => rfl | 12 => rfl | 13 => rfl | 14 => rfl | 15 => rfl | 16 => rfl | 17 => rfl | 18 => rfl | 19 => rfl | 20 => rfl | 21 => rfl | 22 => rfl | 23 => rfl | 24 => rfl | 25 => rfl | 26 => rfl | 27 => rfl | (_ + 28) => rfl)
theorem mk1 {h : Nat → Cel} (hz : zr s 1) : wr (mkA .int 96 (put lay 0 (p + 1, h) p s)) p 2 (.ref (p + 1)) = put lay 1 (p + 2, h) p s := mkA_put (j := 0) rfl rfl (by decide) hz.1 hz.2 (Or.inl rfl)
theorem io1 {h : Nat → Cel} : isOw (mkA .int 96 (put lay 0 (p + 1, h) p s)) p = true := isOw_mk (c := 0)
theorem mk2 {h : Nat → Cel} (hz : zr s 2) : wr (mkA .int 4 (put lay 1 (p + 2, h) p s)) p 4 (.ref (p + 2)) = put lay 2 (p + 3, h) p s := mkA_put (j := 1) rfl rfl (by decide) hz.1 hz.2 (Or.inl rfl)
theorem io2 {h : Nat → Cel} : isOw (mkA .int 4 (put lay 1 (p + 2, h) p s)) p = true := isOw_mk (c := 1)
theorem mk3 {h : Nat → Cel} (hz : zr s 3) : wr (mkA .int 96 (put lay 2 (p + 3, h) p s)) p 5 (.ref (p + 3)) = put lay 3 (p + 4, h) p s := mkA_put (j := 2) rfl rfl (by decide) hz.1 hz.2 (Or.inl rfl)
theorem io3 {h : Nat → Cel} : isOw (mkA .int 96 (put lay 2 (p + 3, h) p s)) p = true := isOw_mk (c := 2)
theorem mk4 {h : Nat → Cel} (hz : zr s 4) : wr (mkA .int 8 (put lay 3 (p + 4, h) p s)) p 14 (.ref (p + 4)) = put lay 4 (p + 5, h) p s := mkA_put (j := 3) rfl rfl (by decide) hz.1 hz.2 (Or.inl rfl)
theorem io4 {h : Nat → Cel} : isOw (mkA .int 8 (put lay 3 (p + 4, h) p s)) p = true := isOw_mk (c := 3)
theorem mk5 {h : Nat → Cel} (hz : zr s 5) : wr (mkA .int 48 (put lay 4 (p + 5, h) p s)) p 15 (.ref (p + 5)) = put lay 5 (p + 6, h) p s := mkA_put (j := 4) rfl rfl (by decide) hz.1 hz.2 (Or.inl rfl)
theorem io5 {h : Nat → Cel} : isOw (mkA .int 48 (put lay 4 (p + 5, h) p s)) p = true := isOw_mk (c := 4)
theorem mk6 {h : Nat → Cel} (hz : zr s 6) : wr (mkA .int 6 (put lay 5 (p + 6, h) p s)) p 16 (.ref (p + 6)) = put lay 6 (p + 7, h) p s := mkA_put (j := 5) rfl rfl (by decide) hz.1 hz.2 (Or.inl rfl)
theorem io6 {h : Nat → Cel} : isOw (mkA .int 6 (put lay 5 (p + 6, h) p s)) p = true := isOw_mk (c := 5)
theorem mk7 {h : Nat → Cel} (hz : zr s 7) : wr (mkA .long 6 (put lay 6 (p + 7, h) p s)) p 17 (.ref (p + 7)) = put lay 7 (p + 8, h) p s := mkA_put (j := 6) rfl rfl (by decide) hz.1 hz.2 (Or.inr (Or.inl rfl))
theorem io7 {h : Nat → Cel} : isOw (mkA .long 6 (put lay 6 (p + 7, h) p s)) p = true := isOw_mk (c := 6)
theorem mk8 {h : Nat → Cel} (hz : zr s 8) : wr (mkA .long 6 (put lay 7 (p + 8, h) p s)) p 18 (.ref (p + 8)) = put lay 8 (p + 9, h) p s := mkA_put (j := 7) rfl rfl (by decide) hz.1 hz.2 (Or.inr (Or.inl rfl))
theorem io8 {h : Nat → Cel} : isOw (mkA .long 6 (put lay 7 (p + 8, h) p s)) p = true := isOw_mk (c := 7)
theorem mk9 {h : Nat → Cel} (hz : zr s 9) : wr (mkA .long 48 (put lay 8 (p + 9, h) p s)) p 19 (.ref (p + 9)) = put lay 9 (p + 10, h) p s := mkA_put (j := 8) rfl rfl (by decide) hz.1 hz.2 (Or.inr (Or.inl rfl))
theorem io9 {h : Nat → Cel} : isOw (mkA .long 48 (put lay 8 (p + 9, h) p s)) p = true := isOw_mk (c := 8)
theorem mk10 {h : Nat → Cel} (hz : zr s 10) : wr (mkA .long 40 (put lay 9 (p + 10, h) p s)) p 20 (.ref (p + 10)) = put lay 10 (p + 11, h) p s := mkA_put (j := 9) rfl rfl (by decide) hz.1 hz.2 (Or.inr (Or.inl rfl))
theorem io10 {h : Nat → Cel} : isOw (mkA .long 40 (put lay 9 (p + 10, h) p s)) p = true := isOw_mk (c := 9)
theorem mk11 {h : Nat → Cel} (hz : zr s 11) : wr (mkA .long 54 (put lay 10 (p + 11, h) p s)) p 21 (.ref (p + 11)) = put lay 11 (p + 12, h) p s := mkA_put (j := 10) rfl rfl (by decide) hz.1 hz.2 (Or.inr (Or.inl rfl))
theorem io11 {h : Nat → Cel} : isOw (mkA .long 54 (put lay 10 (p + 11, h) p s)) p = true := isOw_mk (c := 10)
theorem mk12 {h : Nat → Cel} (hz : zr s 12) : wr (mkA .long 54 (put lay 11 (p + 12, h) p s)) p 22 (.ref (p + 12)) = put lay 12 (p + 13, h) p s := mkA_put (j := 11) rfl rfl (by decide) hz.1 hz.2 (Or.inr (Or.inl rfl))
theorem io12 {h : Nat → Cel} : isOw (mkA .long 54 (put lay 11 (p + 12, h) p s)) p = true := isOw_mk (c := 11)
theorem mk13 {h : Nat → Cel} (hz : zr s 13) : wr (mkA .int 9 (put lay 12 (p + 13, h) p s)) p 23 (.ref (p + 13)) = put lay 13 (p + 14, h) p s := mkA_put (j := 12) rfl rfl (by decide) hz.1 hz.2 (Or.inl rfl)
theorem io13 {h : Nat → Cel} : isOw (mkA .int 9 (put lay 12 (p + 13, h) p s)) p = true := isOw_mk (c := 12)
theorem mk14 {h : Nat → Cel} (hz : zr s 14) : wr (mkA .int 9 (put lay 13 (p + 14, h) p s)) p 24 (.ref (p + 14)) = put lay 14 (p + 15, h) p s := mkA_put (j := 13) rfl rfl (by decide) hz.1 hz.2 (Or.inl rfl)
theorem io14 {h : Nat → Cel} : isOw (mkA .int 9 (put lay 13 (p + 14, h) p s)) p = true := isOw_mk (c := 13)
theorem mk15 {h : Nat → Cel} (hz : zr s 15) : wr (mkA .long 6 (put lay 14 (p + 15, h) p s)) p 25 (.ref (p + 15)) = put lay 15 (p + 16, h) p s := mkA_put (j := 14) rfl rfl (by decide) hz.1 hz.2 (Or.inr (Or.inl rfl))
theorem io15 {h : Nat → Cel} : isOw (mkA .long 6 (put lay 14 (p + 15, h) p s)) p = true := isOw_mk (c := 14)
end Acc
section Pc
variable {lw : LW} {L : List Slot} {S : List Value} {k n : Nat} {H : AH} {Q : Option Value → AH → Prop}
theorem c1 {x0 : Nat} {x1 : Int32} {x2 : Int32} : Cl (pj lw) 1 [.ref x0, .int x1, .int x2] H Q ↔ W (pj lw) 1 0 [.val (.ref x0), .val (.int x1), .val (.int x2), .unset, .unset] [] 0 0 H Q := cl_unf rfl
theorem w1_0 {x : Nat} : W (pj lw) 1 0 (.val (.ref x) :: L) S k n H Q ↔ W (pj lw) 1 1 (.val (.ref x) :: L) (.ref x :: S) k n H Q := W_s (rfl : (pj lw).1 1 0 = some (.aload_n 0, 1, 0)) rfl rfl rfl
theorem w1_1 {a : Nat} : W (pj lw) 1 1 L (.ref a :: S) k n H Q ↔ ((1 ≤ 1 ∧ cs S + 12 ≤ 12) ∧ W (pj lw) 1 4 L S k n H Q) := W_oinit (rfl : (pj lw).1 1 1 = some (.invokespecial 1, 3, (-1)))
theorem w1_4 {x : Nat} : W (pj lw) 1 4 (.val (.ref x) :: L) S k n H Q ↔ W (pj lw) 1 5 (.val (.ref x) :: L) (.ref x :: S) k n H Q := W_s (rfl : (pj lw).1 1 4 = some (.aload_n 0, 1, 0)) rfl rfl rfl
theorem w1_5 : W (pj lw) 1 5 L S k n H Q ↔ W (pj lw) 1 7 L (.int 96 :: S) k n H Q := W_s (rfl : (pj lw).1 1 5 = some (.bipush 96, 2, 0)) rfl rfl rfl
theorem w1_7 : W (pj lw) 1 7 L (.int 96 :: S) k n H Q ↔ ((k + 1 ≤ 15 ∧ n + 96 ≤ 490) ∧ W (pj lw) 1 9 L (.ref H.1 :: S) (k + 1) (n + 96) (mkA .int 96 H) Q) := W_newarr' (rfl : (pj lw).1 1 7 = some (.newarray .int, 2, 0)) rfl (by decide) (by decide)
theorem w1_9 {a : Nat} {v : Value} : W (pj lw) 1 9 L (v :: .ref a :: S) k n H Q ↔ ((isOw H a = true ∧ okv (.array .int) v = true) ∧ W (pj lw) 1 12 L S k n (wr H a 2 v) Q) := W_putf (rfl : (pj lw).1 1 9 = some (.putfield 7, 3, 2))
theorem w1_12 {x : Nat} : W (pj lw) 1 12 (.val (.ref x) :: L) S k n H Q ↔ W (pj lw) 1 13 (.val (.ref x) :: L) (.ref x :: S) k n H Q := W_s (rfl : (pj lw).1 1 12 = some (.aload_n 0, 1, 0)) rfl rfl rfl
theorem w1_13 : W (pj lw) 1 13 L S k n H Q ↔ W (pj lw) 1 14 L (.int 4 :: S) k n H Q := W_s (rfl : (pj lw).1 1 13 = some (.iconst 4, 1, 0)) rfl rfl rfl
theorem w1_14 : W (pj lw) 1 14 L (.int 4 :: S) k n H Q ↔ ((k + 1 ≤ 15 ∧ n + 4 ≤ 490) ∧ W (pj lw) 1 16 L (.ref H.1 :: S) (k + 1) (n + 4) (mkA .int 4 H) Q) := W_newarr' (rfl : (pj lw).1 1 14 = some (.newarray .int, 2, 0)) rfl (by decide) (by decide)
theorem w1_16 {a : Nat} {v : Value} : W (pj lw) 1 16 L (v :: .ref a :: S) k n H Q ↔ ((isOw H a = true ∧ okv (.array .int) v = true) ∧ W (pj lw) 1 19 L S k n (wr H a 4 v) Q) := W_putf (rfl : (pj lw).1 1 16 = some (.putfield 13, 3, 4))
theorem w1_19 {x : Nat} : W (pj lw) 1 19 (.val (.ref x) :: L) S k n H Q ↔ W (pj lw) 1 20 (.val (.ref x) :: L) (.ref x :: S) k n H Q := W_s (rfl : (pj lw).1 1 19 = some (.aload_n 0, 1, 0)) rfl rfl rfl
theorem w1_20 : W (pj lw) 1 20 L S k n H Q ↔ W (pj lw) 1 22 L (.int 96 :: S) k n H Q := W_s (rfl : (pj lw).1 1 20 = some (.bipush 96, 2, 0)) rfl rfl rfl
theorem w1_22 : W (pj lw) 1 22 L (.int 96 :: S) k n H Q ↔ ((k + 1 ≤ 15 ∧ n + 96 ≤ 490) ∧ W (pj lw) 1 24 L (.ref H.1 :: S) (k + 1) (n + 96) (mkA .int 96 H) Q) := W_newarr' (rfl : (pj lw).1 1 22 = some (.newarray .int, 2, 0)) rfl (by decide) (by decide)
theorem w1_24 {a : Nat} {v : Value} : W (pj lw) 1 24 L (v :: .ref a :: S) k n H Q ↔ ((isOw H a = true ∧ okv (.array .int) v = true) ∧ W (pj lw) 1 27 L S k n (wr H a 5 v) Q) := W_putf (rfl : (pj lw).1 1 24 = some (.putfield 16, 3, 5))
theorem w1_27 {x : Nat} : W (pj lw) 1 27 (.val (.ref x) :: L) S k n H Q ↔ W (pj lw) 1 28 (.val (.ref x) :: L) (.ref x :: S) k n H Q := W_s (rfl : (pj lw).1 1 27 = some (.aload_n 0, 1, 0)) rfl rfl rfl
theorem w1_28 : W (pj lw) 1 28 L S k n H Q ↔ W (pj lw) 1 30 L (.int 8 :: S) k n H Q := W_s (rfl : (pj lw).1 1 28 = some (.bipush 8, 2, 0)) rfl rfl rfl
theorem w1_30 : W (pj lw) 1 30 L (.int 8 :: S) k n H Q ↔ ((k + 1 ≤ 15 ∧ n + 8 ≤ 490) ∧ W (pj lw) 1 32 L (.ref H.1 :: S) (k + 1) (n + 8) (mkA .int 8 H) Q) := W_newarr' (rfl : (pj lw).1 1 30 = some (.newarray .int, 2, 0)) rfl (by decide) (by decide)
theorem w1_32 {a : Nat} {v : Value} : W (pj lw) 1 32 L (v :: .ref a :: S) k n H Q ↔ ((isOw H a = true ∧ okv (.array .int) v = true) ∧ W (pj lw) 1 35 L S k n (wr H a 14 v) Q) := W_putf (rfl : (pj lw).1 1 32 = some (.putfield 19, 3, 14))
theorem w1_35 {x : Nat} : W (pj lw) 1 35 (.val (.ref x) :: L) S k n H Q ↔ W (pj lw) 1 36 (.val (.ref x) :: L) (.ref x :: S) k n H Q := W_s (rfl : (pj lw).1 1 35 = some (.aload_n 0, 1, 0)) rfl rfl rfl
theorem w1_36 : W (pj lw) 1 36 L S k n H Q ↔ W (pj lw) 1 38 L (.int 48 :: S) k n H Q := W_s (rfl : (pj lw).1 1 36 = some (.bipush 48, 2, 0)) rfl rfl rfl
theorem w1_38 : W (pj lw) 1 38 L (.int 48 :: S) k n H Q ↔ ((k + 1 ≤ 15 ∧ n + 48 ≤ 490) ∧ W (pj lw) 1 40 L (.ref H.1 :: S) (k + 1) (n + 48) (mkA .int 48 H) Q) := W_newarr' (rfl : (pj lw).1 1 38 = some (.newarray .int, 2, 0)) rfl (by decide) (by decide)
theorem w1_40 {a : Nat} {v : Value} : W (pj lw) 1 40 L (v :: .ref a :: S) k n H Q ↔ ((isOw H a = true ∧ okv (.array .int) v = true) ∧ W (pj lw) 1 43 L S k n (wr H a 15 v) Q) := W_putf (rfl : (pj lw).1 1 40 = some (.putfield 22, 3, 15))
theorem w1_43 {x : Nat} : W (pj lw) 1 43 (.val (.ref x) :: L) S k n H Q ↔ W (pj lw) 1 44 (.val (.ref x) :: L) (.ref x :: S) k n H Q := W_s (rfl : (pj lw).1 1 43 = some (.aload_n 0, 1, 0)) rfl rfl rfl
theorem w1_44 : W (pj lw) 1 44 L S k n H Q ↔ W (pj lw) 1 46 L (.int 6 :: S) k n H Q := W_s (rfl : (pj lw).1 1 44 = some (.bipush 6, 2, 0)) rfl rfl rfl
theorem w1_46 : W (pj lw) 1 46 L (.int 6 :: S) k n H Q ↔ ((k + 1 ≤ 15 ∧ n + 6 ≤ 490) ∧ W (pj lw) 1 48 L (.ref H.1 :: S) (k + 1) (n + 6) (mkA .int 6 H) Q) := W_newarr' (rfl : (pj lw).1 1 46 = some (.newarray .int, 2, 0)) rfl (by decide) (by decide)
theorem w1_48 {a : Nat} {v : Value} : W (pj lw) 1 48 L (v :: .ref a :: S) k n H Q ↔ ((isOw H a = true ∧ okv (.array .int) v = true) ∧ W (pj lw) 1 51 L S k n (wr H a 16 v) Q) := W_putf (rfl : (pj lw).1 1 48 = some (.putfield 25, 3, 16))
theorem w1_51 {x : Nat} : W (pj lw) 1 51 (.val (.ref x) :: L) S k n H Q ↔ W (pj lw) 1 52 (.val (.ref x) :: L) (.ref x :: S) k n H Q := W_s (rfl : (pj lw).1 1 51 = some (.aload_n 0, 1, 0)) rfl rfl rfl
theorem w1_52 : W (pj lw) 1 52 L S k n H Q ↔ W (pj lw) 1 54 L (.int 6 :: S) k n H Q := W_s (rfl : (pj lw).1 1 52 = some (.bipush 6, 2, 0)) rfl rfl rfl
theorem w1_54 : W (pj lw) 1 54 L (.int 6 :: S) k n H Q ↔ ((k + 1 ≤ 15 ∧ n + 6 ≤ 490) ∧ W (pj lw) 1 56 L (.ref H.1 :: S) (k + 1) (n + 6) (mkA .long 6 H) Q) := W_newarr' (rfl : (pj lw).1 1 54 = some (.newarray .long, 2, 0)) rfl (by decide) (by decide)
theorem w1_56 {a : Nat} {v : Value} : W (pj lw) 1 56 L (v :: .ref a :: S) k n H Q ↔ ((isOw H a = true ∧ okv (.array .long) v = true) ∧ W (pj lw) 1 59 L S k n (wr H a 17 v) Q) := W_putf (rfl : (pj lw).1 1 56 = some (.putfield 28, 3, 17))
theorem w1_59 {x : Nat} : W (pj lw) 1 59 (.val (.ref x) :: L) S k n H Q ↔ W (pj lw) 1 60 (.val (.ref x) :: L) (.ref x :: S) k n H Q := W_s (rfl : (pj lw).1 1 59 = some (.aload_n 0, 1, 0)) rfl rfl rfl
theorem w1_60 : W (pj lw) 1 60 L S k n H Q ↔ W (pj lw) 1 62 L (.int 6 :: S) k n H Q := W_s (rfl : (pj lw).1 1 60 = some (.bipush 6, 2, 0)) rfl rfl rfl
theorem w1_62 : W (pj lw) 1 62 L (.int 6 :: S) k n H Q ↔ ((k + 1 ≤ 15 ∧ n + 6 ≤ 490) ∧ W (pj lw) 1 64 L (.ref H.1 :: S) (k + 1) (n + 6) (mkA .long 6 H) Q) := W_newarr' (rfl : (pj lw).1 1 62 = some (.newarray .long, 2, 0)) rfl (by decide) (by decide)
theorem w1_64 {a : Nat} {v : Value} : W (pj lw) 1 64 L (v :: .ref a :: S) k n H Q ↔ ((isOw H a = true ∧ okv (.array .long) v = true) ∧ W (pj lw) 1 67 L S k n (wr H a 18 v) Q) := W_putf (rfl : (pj lw).1 1 64 = some (.putfield 32, 3, 18))
theorem w1_67 {x : Nat} : W (pj lw) 1 67 (.val (.ref x) :: L) S k n H Q ↔ W (pj lw) 1 68 (.val (.ref x) :: L) (.ref x :: S) k n H Q := W_s (rfl : (pj lw).1 1 67 = some (.aload_n 0, 1, 0)) rfl rfl rfl
theorem w1_68 : W (pj lw) 1 68 L S k n H Q ↔ W (pj lw) 1 70 L (.int 48 :: S) k n H Q := W_s (rfl : (pj lw).1 1 68 = some (.bipush 48, 2, 0)) rfl rfl rfl
theorem w1_70 : W (pj lw) 1 70 L (.int 48 :: S) k n H Q ↔ ((k + 1 ≤ 15 ∧ n + 48 ≤ 490) ∧ W (pj lw) 1 72 L (.ref H.1 :: S) (k + 1) (n + 48) (mkA .long 48 H) Q) := W_newarr' (rfl : (pj lw).1 1 70 = some (.newarray .long, 2, 0)) rfl (by decide) (by decide)
theorem w1_72 {a : Nat} {v : Value} : W (pj lw) 1 72 L (v :: .ref a :: S) k n H Q ↔ ((isOw H a = true ∧ okv (.array .long) v = true) ∧ W (pj lw) 1 75 L S k n (wr H a 19 v) Q) := W_putf (rfl : (pj lw).1 1 72 = some (.putfield 35, 3, 19))
theorem w1_75 {x : Nat} : W (pj lw) 1 75 (.val (.ref x) :: L) S k n H Q ↔ W (pj lw) 1 76 (.val (.ref x) :: L) (.ref x :: S) k n H Q := W_s (rfl : (pj lw).1 1 75 = some (.aload_n 0, 1, 0)) rfl rfl rfl
theorem w1_76 : W (pj lw) 1 76 L S k n H Q ↔ W (pj lw) 1 78 L (.int 40 :: S) k n H Q := W_s (rfl : (pj lw).1 1 76 = some (.bipush 40, 2, 0)) rfl rfl rfl
theorem w1_78 : W (pj lw) 1 78 L (.int 40 :: S) k n H Q ↔ ((k + 1 ≤ 15 ∧ n + 40 ≤ 490) ∧ W (pj lw) 1 80 L (.ref H.1 :: S) (k + 1) (n + 40) (mkA .long 40 H) Q) := W_newarr' (rfl : (pj lw).1 1 78 = some (.newarray .long, 2, 0)) rfl (by decide) (by decide)
theorem w1_80 {a : Nat} {v : Value} : W (pj lw) 1 80 L (v :: .ref a :: S) k n H Q ↔ ((isOw H a = true ∧ okv (.array .long) v = true) ∧ W (pj lw) 1 83 L S k n (wr H a 20 v) Q) := W_putf (rfl : (pj lw).1 1 80 = some (.putfield 38, 3, 20))
theorem w1_83 {x : Nat} : W (pj lw) 1 83 (.val (.ref x) :: L) S k n H Q ↔ W (pj lw) 1 84 (.val (.ref x) :: L) (.ref x :: S) k n H Q := W_s (rfl : (pj lw).1 1 83 = some (.aload_n 0, 1, 0)) rfl rfl rfl
theorem w1_84 : W (pj lw) 1 84 L S k n H Q ↔ W (pj lw) 1 86 L (.int 54 :: S) k n H Q := W_s (rfl : (pj lw).1 1 84 = some (.bipush 54, 2, 0)) rfl rfl rfl
theorem w1_86 : W (pj lw) 1 86 L (.int 54 :: S) k n H Q ↔ ((k + 1 ≤ 15 ∧ n + 54 ≤ 490) ∧ W (pj lw) 1 88 L (.ref H.1 :: S) (k + 1) (n + 54) (mkA .long 54 H) Q) := W_newarr' (rfl : (pj lw).1 1 86 = some (.newarray .long, 2, 0)) rfl (by decide) (by decide)
theorem w1_88 {a : Nat} {v : Value} : W (pj lw) 1 88 L (v :: .ref a :: S) k n H Q ↔ ((isOw H a = true ∧ okv (.array .long) v = true) ∧ W (pj lw) 1 91 L S k n (wr H a 21 v) Q) := W_putf (rfl : (pj lw).1 1 88 = some (.putfield 41, 3, 21))
theorem w1_91 {x : Nat} : W (pj lw) 1 91 (.val (.ref x) :: L) S k n H Q ↔ W (pj lw) 1 92 (.val (.ref x) :: L) (.ref x :: S) k n H Q := W_s (rfl : (pj lw).1 1 91 = some (.aload_n 0, 1, 0)) rfl rfl rfl
theorem w1_92 : W (pj lw) 1 92 L S k n H Q ↔ W (pj lw) 1 94 L (.int 54 :: S) k n H Q := W_s (rfl : (pj lw).1 1 92 = some (.bipush 54, 2, 0)) rfl rfl rfl
theorem w1_94 : W (pj lw) 1 94 L (.int 54 :: S) k n H Q ↔ ((k + 1 ≤ 15 ∧ n + 54 ≤ 490) ∧ W (pj lw) 1 96 L (.ref H.1 :: S) (k + 1) (n + 54) (mkA .long 54 H) Q) := W_newarr' (rfl : (pj lw).1 1 94 = some (.newarray .long, 2, 0)) rfl (by decide) (by decide)
theorem w1_96 {a : Nat} {v : Value} : W (pj lw) 1 96 L (v :: .ref a :: S) k n H Q ↔ ((isOw H a = true ∧ okv (.array .long) v = true) ∧ W (pj lw) 1 99 L S k n (wr H a 22 v) Q) := W_putf (rfl : (pj lw).1 1 96 = some (.putfield 44, 3, 22))
theorem w1_99 {x : Nat} : W (pj lw) 1 99 (.val (.ref x) :: L) S k n H Q ↔ W (pj lw) 1 100 (.val (.ref x) :: L) (.ref x :: S) k n H Q := W_s (rfl : (pj lw).1 1 99 = some (.aload_n 0, 1, 0)) rfl rfl rfl
theorem w1_100 : W (pj lw) 1 100 L S k n H Q ↔ W (pj lw) 1 102 L (.int 9 :: S) k n H Q := W_s (rfl : (pj lw).1 1 100 = some (.bipush 9, 2, 0)) rfl rfl rfl
theorem w1_102 : W (pj lw) 1 102 L (.int 9 :: S) k n H Q ↔ ((k + 1 ≤ 15 ∧ n + 9 ≤ 490) ∧ W (pj lw) 1 104 L (.ref H.1 :: S) (k + 1) (n + 9) (mkA .int 9 H) Q) := W_newarr' (rfl : (pj lw).1 1 102 = some (.newarray .int, 2, 0)) rfl (by decide) (by decide)
theorem w1_104 {a : Nat} {v : Value} : W (pj lw) 1 104 L (v :: .ref a :: S) k n H Q ↔ ((isOw H a = true ∧ okv (.array .int) v = true) ∧ W (pj lw) 1 107 L S k n (wr H a 23 v) Q) := W_putf (rfl : (pj lw).1 1 104 = some (.putfield 47, 3, 23))
theorem w1_107 {x : Nat} : W (pj lw) 1 107 (.val (.ref x) :: L) S k n H Q ↔ W (pj lw) 1 108 (.val (.ref x) :: L) (.ref x :: S) k n H Q := W_s (rfl : (pj lw).1 1 107 = some (.aload_n 0, 1, 0)) rfl rfl rfl
theorem w1_108 : W (pj lw) 1 108 L S k n H Q ↔ W (pj lw) 1 110 L (.int 9 :: S) k n H Q := W_s (rfl : (pj lw).1 1 108 = some (.bipush 9, 2, 0)) rfl rfl rfl
theorem w1_110 : W (pj lw) 1 110 L (.int 9 :: S) k n H Q ↔ ((k + 1 ≤ 15 ∧ n + 9 ≤ 490) ∧ W (pj lw) 1 112 L (.ref H.1 :: S) (k + 1) (n + 9) (mkA .int 9 H) Q) := W_newarr' (rfl : (pj lw).1 1 110 = some (.newarray .int, 2, 0)) rfl (by decide) (by decide)
theorem w1_112 {a : Nat} {v : Value} : W (pj lw) 1 112 L (v :: .ref a :: S) k n H Q ↔ ((isOw H a = true ∧ okv (.array .int) v = true) ∧ W (pj lw) 1 115 L S k n (wr H a 24 v) Q) := W_putf (rfl : (pj lw).1 1 112 = some (.putfield 50, 3, 24))
theorem w1_115 {x : Nat} : W (pj lw) 1 115 (.val (.ref x) :: L) S k n H Q ↔ W (pj lw) 1 116 (.val (.ref x) :: L) (.ref x :: S) k n H Q := W_s (rfl : (pj lw).1 1 115 = some (.aload_n 0, 1, 0)) rfl rfl rfl
theorem w1_116 : W (pj lw) 1 116 L S k n H Q ↔ W (pj lw) 1 118 L (.int 6 :: S) k n H Q := W_s (rfl : (pj lw).1 1 116 = some (.bipush 6, 2, 0)) rfl rfl rfl
theorem w1_118 : W (pj lw) 1 118 L (.int 6 :: S) k n H Q ↔ ((k + 1 ≤ 15 ∧ n + 6 ≤ 490) ∧ W (pj lw) 1 120 L (.ref H.1 :: S) (k + 1) (n + 6) (mkA .long 6 H) Q) := W_newarr' (rfl : (pj lw).1 1 118 = some (.newarray .long, 2, 0)) rfl (by decide) (by decide)
theorem w1_120 {a : Nat} {v : Value} : W (pj lw) 1 120 L (v :: .ref a :: S) k n H Q ↔ ((isOw H a = true ∧ okv (.array .long) v = true) ∧ W (pj lw) 1 123 L S k n (wr H a 25 v) Q) := W_putf (rfl : (pj lw).1 1 120 = some (.putfield 53, 3, 25))
theorem w1_123 {x : Int32} {l0 : Slot} : W (pj lw) 1 123 (l0 :: .val (.int x) :: L) S k n H Q ↔ W (pj lw) 1 124 (l0 :: .val (.int x) :: L) (.int x :: S) k n H Q := W_s (rfl : (pj lw).1 1 123 = some (.iload_n 1, 1, 0)) rfl rfl rfl
theorem w1_124 {x : Int32} {l0 l1 l2 : Slot} : W (pj lw) 1 124 (l0 :: l1 :: l2 :: .unset :: L) (.int x :: S) k n H Q ↔ W (pj lw) 1 125 (l0 :: l1 :: l2 :: .val (.int x) :: L) S k n H Q := W_istn (rfl : (pj lw).1 1 124 = some (.istore_n 3, 1, 0)) rfl rfl
theorem w1_125 {x : Int32} {l0 l1 l2 : Slot} : W (pj lw) 1 125 (l0 :: l1 :: l2 :: .val (.int x) :: L) S k n H Q ↔ W (pj lw) 1 126 (l0 :: l1 :: l2 :: .val (.int x) :: L) (.int x :: S) k n H Q := W_s (rfl : (pj lw).1 1 125 = some (.iload_n 3, 1, 0)) rfl rfl rfl
theorem w1_126 : W (pj lw) 1 126 L S k n H Q ↔ W (pj lw) 1 127 L (.int 2 :: S) k n H Q := W_s (rfl : (pj lw).1 1 126 = some (.iconst 2, 1, 0)) rfl rfl rfl
theorem w1_127 {x y : Int32} : W (pj lw) 1 127 L (.int y :: .int x :: S) k n H Q ↔ (if x < y then W (pj lw) 1 130 L S k n H Q else W (pj lw) 1 132 L S k n H Q) := W_icmp_ge (rfl : (pj lw).1 1 127 = some (.if_icmp .ge 5, 3, 0)) rfl
theorem w1_130 : W (pj lw) 1 130 L S k n H Q ↔ W (pj lw) 1 131 L (.int 2 :: S) k n H Q := W_s (rfl : (pj lw).1 1 130 = some (.iconst 2, 1, 0)) rfl rfl rfl
theorem w1_131i {y : Int32} {x : Int32} {l0 l1 l2 : Slot} : W (pj lw) 1 131 (l0 :: l1 :: l2 :: .val (.int y) :: L) (.int x :: S) k n H Q ↔ W (pj lw) 1 132 (l0 :: l1 :: l2 :: .val (.int x) :: L) S k n H Q := W_istn (rfl : (pj lw).1 1 131 = some (.istore_n 3, 1, 0)) rfl rfl
theorem w1_132 {x : Int32} {l0 l1 l2 : Slot} : W (pj lw) 1 132 (l0 :: l1 :: l2 :: .val (.int x) :: L) S k n H Q ↔ W (pj lw) 1 133 (l0 :: l1 :: l2 :: .val (.int x) :: L) (.int x :: S) k n H Q := W_s (rfl : (pj lw).1 1 132 = some (.iload_n 3, 1, 0)) rfl rfl rfl
theorem w1_133 : W (pj lw) 1 133 L S k n H Q ↔ W (pj lw) 1 135 L (.int 6 :: S) k n H Q := W_s (rfl : (pj lw).1 1 133 = some (.bipush 6, 2, 0)) rfl rfl rfl
theorem w1_135 {x y : Int32} : W (pj lw) 1 135 L (.int y :: .int x :: S) k n H Q ↔ (if y < x then W (pj lw) 1 138 L S k n H Q else W (pj lw) 1 141 L S k n H Q) := W_icmp_le (rfl : (pj lw).1 1 135 = some (.if_icmp .le 6, 3, 0)) rfl
theorem w1_138 : W (pj lw) 1 138 L S k n H Q ↔ W (pj lw) 1 140 L (.int 6 :: S) k n H Q := W_s (rfl : (pj lw).1 1 138 = some (.bipush 6, 2, 0)) rfl rfl rfl
theorem w1_140i {y : Int32} {x : Int32} {l0 l1 l2 : Slot} : W (pj lw) 1 140 (l0 :: l1 :: l2 :: .val (.int y) :: L) (.int x :: S) k n H Q ↔ W (pj lw) 1 141 (l0 :: l1 :: l2 :: .val (.int x) :: L) S k n H Q := W_istn (rfl : (pj lw).1 1 140 = some (.istore_n 3, 1, 0)) rfl rfl
theorem w1_141 {x : Int32} {l0 l1 : Slot} : W (pj lw) 1 141 (l0 :: l1 :: .val (.int x) :: L) S k n H Q ↔ W (pj lw) 1 142 (l0 :: l1 :: .val (.int x) :: L) (.int x :: S) k n H Q := W_s (rfl : (pj lw).1 1 141 = some (.iload_n 2, 1, 0)) rfl rfl rfl
theorem w1_142 {x : Int32} {l0 l1 l2 l3 : Slot} : W (pj lw) 1 142 (l0 :: l1 :: l2 :: l3 :: .unset :: L) (.int x :: S) k n H Q ↔ W (pj lw) 1 144 (l0 :: l1 :: l2 :: l3 :: .val (.int x) :: L) S k n H Q := W_ist (rfl : (pj lw).1 1 142 = some (.istore 4, 2, 0)) rfl rfl
theorem w1_144 {x : Int32} {l0 l1 l2 l3 : Slot} : W (pj lw) 1 144 (l0 :: l1 :: l2 :: l3 :: .val (.int x) :: L) S k n H Q ↔ W (pj lw) 1 146 (l0 :: l1 :: l2 :: l3 :: .val (.int x) :: L) (.int x :: S) k n H Q := W_s (rfl : (pj lw).1 1 144 = some (.iload 4, 2, 0)) rfl rfl rfl
theorem w1_146 : W (pj lw) 1 146 L S k n H Q ↔ W (pj lw) 1 147 L (.int 1 :: S) k n H Q := W_s (rfl : (pj lw).1 1 146 = some (.iconst 1, 1, 0)) rfl rfl rfl
theorem w1_147 {x y : Int32} : W (pj lw) 1 147 L (.int y :: .int x :: S) k n H Q ↔ (if x < y then W (pj lw) 1 150 L S k n H Q else W (pj lw) 1 153 L S k n H Q) := W_icmp_ge (rfl : (pj lw).1 1 147 = some (.if_icmp .ge 6, 3, 0)) rfl
theorem w1_150 : W (pj lw) 1 150 L S k n H Q ↔ W (pj lw) 1 151 L (.int 1 :: S) k n H Q := W_s (rfl : (pj lw).1 1 150 = some (.iconst 1, 1, 0)) rfl rfl rfl
theorem w1_151i {y : Int32} {x : Int32} {l0 l1 l2 l3 : Slot} : W (pj lw) 1 151 (l0 :: l1 :: l2 :: l3 :: .val (.int y) :: L) (.int x :: S) k n H Q ↔ W (pj lw) 1 153 (l0 :: l1 :: l2 :: l3 :: .val (.int x) :: L) S k n H Q := W_ist (rfl : (pj lw).1 1 151 = some (.istore 4, 2, 0)) rfl rfl
theorem w1_153 {x : Int32} {l0 l1 l2 l3 : Slot} : W (pj lw) 1 153 (l0 :: l1 :: l2 :: l3 :: .val (.int x) :: L) S k n H Q ↔ W (pj lw) 1 155 (l0 :: l1 :: l2 :: l3 :: .val (.int x) :: L) (.int x :: S) k n H Q := W_s (rfl : (pj lw).1 1 153 = some (.iload 4, 2, 0)) rfl rfl rfl
theorem w1_155 : W (pj lw) 1 155 L S k n H Q ↔ W (pj lw) 1 157 L (.int 8 :: S) k n H Q := W_s (rfl : (pj lw).1 1 155 = some (.bipush 8, 2, 0)) rfl rfl rfl
theorem w1_157 {x y : Int32} : W (pj lw) 1 157 L (.int y :: .int x :: S) k n H Q ↔ (if y < x then W (pj lw) 1 160 L S k n H Q else W (pj lw) 1 164 L S k n H Q) := W_icmp_le (rfl : (pj lw).1 1 157 = some (.if_icmp .le 7, 3, 0)) rfl
theorem w1_160 : W (pj lw) 1 160 L S k n H Q ↔ W (pj lw) 1 162 L (.int 8 :: S) k n H Q := W_s (rfl : (pj lw).1 1 160 = some (.bipush 8, 2, 0)) rfl rfl rfl
theorem w1_162i {y : Int32} {x : Int32} {l0 l1 l2 l3 : Slot} : W (pj lw) 1 162 (l0 :: l1 :: l2 :: l3 :: .val (.int y) :: L) (.int x :: S) k n H Q ↔ W (pj lw) 1 164 (l0 :: l1 :: l2 :: l3 :: .val (.int x) :: L) S k n H Q := W_ist (rfl : (pj lw).1 1 162 = some (.istore 4, 2, 0)) rfl rfl
theorem w1_164 {x : Nat} : W (pj lw) 1 164 (.val (.ref x) :: L) S k n H Q ↔ W (pj lw) 1 165 (.val (.ref x) :: L) (.ref x :: S) k n H Q := W_s (rfl : (pj lw).1 1 164 = some (.aload_n 0, 1, 0)) rfl rfl rfl
theorem w1_165 {x : Int32} {l0 l1 l2 : Slot} : W (pj lw) 1 165 (l0 :: l1 :: l2 :: .val (.int x) :: L) S k n H Q ↔ W (pj lw) 1 166 (l0 :: l1 :: l2 :: .val (.int x) :: L) (.int x :: S) k n H Q := W_s (rfl : (pj lw).1 1 165 = some (.iload_n 3, 1, 0)) rfl rfl rfl
theorem w1_166 {a : Nat} {v : Value} : W (pj lw) 1 166 L (v :: .ref a :: S) k n H Q ↔ ((isOw H a = true ∧ okv (.int) v = true) ∧ W (pj lw) 1 169 L S k n (wr H a 0 v) Q) := W_putf (rfl : (pj lw).1 1 166 = some (.putfield 56, 3, 0))
theorem w1_169 {x : Nat} : W (pj lw) 1 169 (.val (.ref x) :: L) S k n H Q ↔ W (pj lw) 1 170 (.val (.ref x) :: L) (.ref x :: S) k n H Q := W_s (rfl : (pj lw).1 1 169 = some (.aload_n 0, 1, 0)) rfl rfl rfl
theorem w1_170 {x : Int32} {l0 l1 l2 l3 : Slot} : W (pj lw) 1 170 (l0 :: l1 :: l2 :: l3 :: .val (.int x) :: L) S k n H Q ↔ W (pj lw) 1 172 (l0 :: l1 :: l2 :: l3 :: .val (.int x) :: L) (.int x :: S) k n H Q := W_s (rfl : (pj lw).1 1 170 = some (.iload 4, 2, 0)) rfl rfl rfl
theorem w1_172 {a : Nat} {v : Value} : W (pj lw) 1 172 L (v :: .ref a :: S) k n H Q ↔ ((isOw H a = true ∧ okv (.int) v = true) ∧ W (pj lw) 1 175 L S k n (wr H a 1 v) Q) := W_putf (rfl : (pj lw).1 1 172 = some (.putfield 60, 3, 1))
theorem w1_175 {x : Nat} : W (pj lw) 1 175 (.val (.ref x) :: L) S k n H Q ↔ W (pj lw) 1 176 (.val (.ref x) :: L) (.ref x :: S) k n H Q := W_s (rfl : (pj lw).1 1 175 = some (.aload_n 0, 1, 0)) rfl rfl rfl
theorem w1_176 : W (pj lw) 1 176 L S k n H Q ↔ W (pj lw) 1 177 L (.int 0 :: S) k n H Q := W_s (rfl : (pj lw).1 1 176 = some (.iconst 0, 1, 0)) rfl rfl rfl
theorem w1_177 {a : Nat} {v : Value} : W (pj lw) 1 177 L (v :: .ref a :: S) k n H Q ↔ ((isOw H a = true ∧ okv (.int) v = true) ∧ W (pj lw) 1 180 L S k n (wr H a 3 v) Q) := W_putf (rfl : (pj lw).1 1 177 = some (.putfield 63, 3, 3))
theorem w1_180 {x : Nat} : W (pj lw) 1 180 (.val (.ref x) :: L) S k n H Q ↔ W (pj lw) 1 181 (.val (.ref x) :: L) (.ref x :: S) k n H Q := W_s (rfl : (pj lw).1 1 180 = some (.aload_n 0, 1, 0)) rfl rfl rfl
theorem w1_181 : W (pj lw) 1 181 L S k n H Q ↔ W (pj lw) 1 182 L (.int 0 :: S) k n H Q := W_s (rfl : (pj lw).1 1 181 = some (.iconst 0, 1, 0)) rfl rfl rfl
theorem w1_182 {a : Nat} {v : Value} : W (pj lw) 1 182 L (v :: .ref a :: S) k n H Q ↔ ((isOw H a = true ∧ okv (.boolean) v = true) ∧ W (pj lw) 1 185 L S k n (wr H a 10 v) Q) := W_putf (rfl : (pj lw).1 1 182 = some (.putfield 66, 3, 10))
theorem w1_185 : W (pj lw) 1 185 L [] k n H Q ↔ Q none H := W_r (rfl : (pj lw).1 1 185 = some (.return_, 1, 0)) rfl
theorem c2 {x0 : Nat} {x1 : Int32} : Cl (pj lw) 2 [.ref x0, .int x1] H Q ↔ W (pj lw) 2 0 [.val (.ref x0), .val (.int x1)] [] 0 0 H Q := cl_unf rfl
theorem w2_0 {x : Nat} : W (pj lw) 2 0 (.val (.ref x) :: L) S k n H Q ↔ W (pj lw) 2 1 (.val (.ref x) :: L) (.ref x :: S) k n H Q := W_s (rfl : (pj lw).1 2 0 = some (.aload_n 0, 1, 0)) rfl rfl rfl
theorem w2_1 {a : Nat} : W (pj lw) 2 1 L (.ref a :: S) k n H Q ↔ (isO H a = true ∧ W (pj lw) 2 4 L (fld H a 3 :: S) k n H Q) := W_getf (rfl : (pj lw).1 2 1 = some (.getfield 63, 3, 3))
theorem w2_4 {x : Int32} : W (pj lw) 2 4 L (.int x :: S) k n H Q ↔ (if x < 0 then W (pj lw) 2 16 L S k n H Q else W (pj lw) 2 7 L S k n H Q) := W_if_lt (rfl : (pj lw).1 2 4 = some (.ifCond .lt 12, 3, 0)) rfl
theorem w2_7 {x : Nat} : W (pj lw) 2 7 (.val (.ref x) :: L) S k n H Q ↔ W (pj lw) 2 8 (.val (.ref x) :: L) (.ref x :: S) k n H Q := W_s (rfl : (pj lw).1 2 7 = some (.aload_n 0, 1, 0)) rfl rfl rfl
theorem w2_8 {a : Nat} : W (pj lw) 2 8 L (.ref a :: S) k n H Q ↔ (isO H a = true ∧ W (pj lw) 2 11 L (fld H a 3 :: S) k n H Q) := W_getf (rfl : (pj lw).1 2 8 = some (.getfield 63, 3, 3))
theorem w2_11 : W (pj lw) 2 11 L S k n H Q ↔ W (pj lw) 2 13 L (.int 96 :: S) k n H Q := W_s (rfl : (pj lw).1 2 11 = some (.bipush 96, 2, 0)) rfl rfl rfl
theorem w2_13 {x y : Int32} : W (pj lw) 2 13 L (.int y :: .int x :: S) k n H Q ↔ (if x < y then W (pj lw) 2 18 L S k n H Q else W (pj lw) 2 16 L S k n H Q) := W_icmp_lt (rfl : (pj lw).1 2 13 = some (.if_icmp .lt 5, 3, 0)) rfl
theorem w2_16 : W (pj lw) 2 16 L S k n H Q ↔ W (pj lw) 2 17 L (.int 0 :: S) k n H Q := W_s (rfl : (pj lw).1 2 16 = some (.iconst 0, 1, 0)) rfl rfl rfl
theorem w2_17 {x : Int32} : W (pj lw) 2 17 L (.int x :: S) k n H Q ↔ ((x = 0 ∨ x = 1) ∧ Q (some (.int x)) H) := W_rz (rfl : (pj lw).1 2 17 = some (.ireturn, 1, 0)) rfl
theorem w2_18 {x : Nat} : W (pj lw) 2 18 (.val (.ref x) :: L) S k n H Q ↔ W (pj lw) 2 19 (.val (.ref x) :: L) (.ref x :: S) k n H Q := W_s (rfl : (pj lw).1 2 18 = some (.aload_n 0, 1, 0)) rfl rfl rfl
theorem w2_19 {x : Int32} {l0 : Slot} : W (pj lw) 2 19 (l0 :: .val (.int x) :: L) S k n H Q ↔ W (pj lw) 2 20 (l0 :: .val (.int x) :: L) (.int x :: S) k n H Q := W_s (rfl : (pj lw).1 2 19 = some (.iload_n 1, 1, 0)) rfl rfl rfl
theorem w2_20 {a : Nat} {x0 : Int32} : W (pj lw) 2 20 L (.int x0 :: .ref a :: S) k n H Q ↔ ((isO H a = true ∧ cs S + (2 + 11) + 13 ≤ 26) ∧ Cl (pj lw) 23 [.ref a, .int x0] H (fun v H => W (pj lw) 2 23 L (v.toList ++ S) k n H Q)) := W_inst (as := [.int x0]) (rfl : (pj lw).1 2 20 = some (.invokevirtual 70, 3, 23)) rfl rfl rfl (Nat.le_of_ble_eq_true rfl) (Nat.le_of_ble_eq_true rfl) ⟨rfl, rfl⟩
theorem w2_23 {x : Int32} : W (pj lw) 2 23 L (.int x :: S) k n H Q ↔ (if x = 0 then W (pj lw) 2 26 L S k n H Q else W (pj lw) 2 28 L S k n H Q) := W_if_ne (rfl : (pj lw).1 2 23 = some (.ifCond .ne 5, 3, 0)) rfl
theorem w2_26 : W (pj lw) 2 26 L S k n H Q ↔ W (pj lw) 2 27 L (.int 0 :: S) k n H Q := W_s (rfl : (pj lw).1 2 26 = some (.iconst 0, 1, 0)) rfl rfl rfl
theorem w2_27 {x : Int32} : W (pj lw) 2 27 L (.int x :: S) k n H Q ↔ ((x = 0 ∨ x = 1) ∧ Q (some (.int x)) H) := W_rz (rfl : (pj lw).1 2 27 = some (.ireturn, 1, 0)) rfl
theorem w2_28 {x : Nat} : W (pj lw) 2 28 (.val (.ref x) :: L) S k n H Q ↔ W (pj lw) 2 29 (.val (.ref x) :: L) (.ref x :: S) k n H Q := W_s (rfl : (pj lw).1 2 28 = some (.aload_n 0, 1, 0)) rfl rfl rfl
theorem w2_29 {a : Nat} : W (pj lw) 2 29 L (.ref a :: S) k n H Q ↔ (isO H a = true ∧ W (pj lw) 2 32 L (fld H a 2 :: S) k n H Q) := W_getf (rfl : (pj lw).1 2 29 = some (.getfield 7, 3, 2))
theorem w2_32 {x : Nat} : W (pj lw) 2 32 (.val (.ref x) :: L) S k n H Q ↔ W (pj lw) 2 33 (.val (.ref x) :: L) (.ref x :: S) k n H Q := W_s (rfl : (pj lw).1 2 32 = some (.aload_n 0, 1, 0)) rfl rfl rfl
theorem w2_33 {a : Nat} : W (pj lw) 2 33 L (.ref a :: S) k n H Q ↔ (isO H a = true ∧ W (pj lw) 2 36 L (fld H a 3 :: S) k n H Q) := W_getf (rfl : (pj lw).1 2 33 = some (.getfield 63, 3, 3))
theorem w2_36 {x : Int32} {l0 : Slot} : W (pj lw) 2 36 (l0 :: .val (.int x) :: L) S k n H Q ↔ W (pj lw) 2 37 (l0 :: .val (.int x) :: L) (.int x :: S) k n H Q := W_s (rfl : (pj lw).1 2 36 = some (.iload_n 1, 1, 0)) rfl rfl rfl
theorem w2_37 {x i : Int32} {a : Nat} : W (pj lw) 2 37 L (.int x :: .int i :: .ref a :: S) k n H Q ↔ (inAw H a .int i = true ∧ W (pj lw) 2 38 L S k n (wr H a i.toNatClampNeg (.int x)) Q) := W_iastore (rfl : (pj lw).1 2 37 = some (.iastore, 1, 0))
theorem w2_38 {x : Nat} : W (pj lw) 2 38 (.val (.ref x) :: L) S k n H Q ↔ W (pj lw) 2 39 (.val (.ref x) :: L) (.ref x :: S) k n H Q := W_s (rfl : (pj lw).1 2 38 = some (.aload_n 0, 1, 0)) rfl rfl rfl
theorem w2_39 {x : Nat} : W (pj lw) 2 39 L (.ref x :: S) k n H Q ↔ W (pj lw) 2 40 L (.ref x :: .ref x :: S) k n H Q := W_s (rfl : (pj lw).1 2 39 = some (.dup, 1, 0)) rfl rfl rfl
theorem w2_40 {a : Nat} : W (pj lw) 2 40 L (.ref a :: S) k n H Q ↔ (isO H a = true ∧ W (pj lw) 2 43 L (fld H a 3 :: S) k n H Q) := W_getf (rfl : (pj lw).1 2 40 = some (.getfield 63, 3, 3))
theorem w2_43 : W (pj lw) 2 43 L S k n H Q ↔ W (pj lw) 2 44 L (.int 1 :: S) k n H Q := W_s (rfl : (pj lw).1 2 43 = some (.iconst 1, 1, 0)) rfl rfl rfl
theorem w2_44 {x y : Int32} : W (pj lw) 2 44 L (.int y :: .int x :: S) k n H Q ↔ W (pj lw) 2 45 L (.int (x + y) :: S) k n H Q := W_s (rfl : (pj lw).1 2 44 = some (.iadd, 1, 0)) rfl rfl rfl
theorem w2_45 {a : Nat} {v : Value} : W (pj lw) 2 45 L (v :: .ref a :: S) k n H Q ↔ ((isOw H a = true ∧ okv (.int) v = true) ∧ W (pj lw) 2 48 L S k n (wr H a 3 v) Q) := W_putf (rfl : (pj lw).1 2 45 = some (.putfield 63, 3, 3))
theorem w2_48 : W (pj lw) 2 48 L S k n H Q ↔ W (pj lw) 2 49 L (.int 1 :: S) k n H Q := W_s (rfl : (pj lw).1 2 48 = some (.iconst 1, 1, 0)) rfl rfl rfl
theorem w2_49 {x : Int32} : W (pj lw) 2 49 L (.int x :: S) k n H Q ↔ ((x = 0 ∨ x = 1) ∧ Q (some (.int x)) H) := W_rz (rfl : (pj lw).1 2 49 = some (.ireturn, 1, 0)) rfl
theorem c6 {x0 : Nat} : Cl (pj lw) 6 [.ref x0] H Q ↔ W (pj lw) 6 0 [.val (.ref x0), .unset, .unset, .unset] [] 0 0 H Q := cl_unf rfl
theorem w6_0 {x : Nat} : W (pj lw) 6 0 (.val (.ref x) :: L) S k n H Q ↔ W (pj lw) 6 1 (.val (.ref x) :: L) (.ref x :: S) k n H Q := W_s (rfl : (pj lw).1 6 0 = some (.aload_n 0, 1, 0)) rfl rfl rfl
theorem w6_1 : W (pj lw) 6 1 L S k n H Q ↔ W (pj lw) 6 2 L (.int 0 :: S) k n H Q := W_s (rfl : (pj lw).1 6 1 = some (.iconst 0, 1, 0)) rfl rfl rfl
theorem w6_2 {a : Nat} {v : Value} : W (pj lw) 6 2 L (v :: .ref a :: S) k n H Q ↔ ((isOw H a = true ∧ okv (.boolean) v = true) ∧ W (pj lw) 6 5 L S k n (wr H a 10 v) Q) := W_putf (rfl : (pj lw).1 6 2 = some (.putfield 66, 3, 10))
theorem w6_5 {x : Nat} : W (pj lw) 6 5 (.val (.ref x) :: L) S k n H Q ↔ W (pj lw) 6 6 (.val (.ref x) :: L) (.ref x :: S) k n H Q := W_s (rfl : (pj lw).1 6 5 = some (.aload_n 0, 1, 0)) rfl rfl rfl
theorem w6_6 {a : Nat} : W (pj lw) 6 6 L (.ref a :: S) k n H Q ↔ ((isO H a = true ∧ cs S + (8 + 11) + 41 ≤ 77) ∧ Cl (pj lw) 24 [.ref a] H (fun v H => W (pj lw) 6 9 L (v.toList ++ S) k n H Q)) := W_inst (as := []) (rfl : (pj lw).1 6 6 = some (.invokevirtual 74, 3, 24)) rfl rfl rfl (Nat.le_of_ble_eq_true rfl) (Nat.le_of_ble_eq_true rfl) ⟨rfl, rfl⟩
theorem w6_9 {x : Int32} : W (pj lw) 6 9 L (.int x :: S) k n H Q ↔ (if x = 0 then W (pj lw) 6 12 L S k n H Q else W (pj lw) 6 14 L S k n H Q) := W_if_ne (rfl : (pj lw).1 6 9 = some (.ifCond .ne 5, 3, 0)) rfl
theorem w6_12 : W (pj lw) 6 12 L S k n H Q ↔ W (pj lw) 6 13 L (.int 1 :: S) k n H Q := W_s (rfl : (pj lw).1 6 12 = some (.iconst 1, 1, 0)) rfl rfl rfl
theorem w6_13 {x : Int32} : W (pj lw) 6 13 L (.int x :: S) k n H Q ↔ Q (some (.int x)) H := W_r (rfl : (pj lw).1 6 13 = some (.ireturn, 1, 0)) rfl
theorem w6_14 {x : Nat} : W (pj lw) 6 14 (.val (.ref x) :: L) S k n H Q ↔ W (pj lw) 6 15 (.val (.ref x) :: L) (.ref x :: S) k n H Q := W_s (rfl : (pj lw).1 6 14 = some (.aload_n 0, 1, 0)) rfl rfl rfl
theorem w6_15 {a : Nat} : W (pj lw) 6 15 L (.ref a :: S) k n H Q ↔ (isO H a = true ∧ W (pj lw) 6 18 L (fld H a 7 :: S) k n H Q) := W_getf (rfl : (pj lw).1 6 15 = some (.getfield 78, 3, 7))
theorem w6_18 {x : Nat} : W (pj lw) 6 18 (.val (.ref x) :: L) S k n H Q ↔ W (pj lw) 6 19 (.val (.ref x) :: L) (.ref x :: S) k n H Q := W_s (rfl : (pj lw).1 6 18 = some (.aload_n 0, 1, 0)) rfl rfl rfl
theorem w6_19 {a : Nat} : W (pj lw) 6 19 L (.ref a :: S) k n H Q ↔ (isO H a = true ∧ W (pj lw) 6 22 L (fld H a 0 :: S) k n H Q) := W_getf (rfl : (pj lw).1 6 19 = some (.getfield 56, 3, 0))
theorem w6_22 {x y : Int32} : W (pj lw) 6 22 L (.int y :: .int x :: S) k n H Q ↔ (if y < x then W (pj lw) 6 25 L S k n H Q else W (pj lw) 6 27 L S k n H Q) := W_icmp_le (rfl : (pj lw).1 6 22 = some (.if_icmp .le 5, 3, 0)) rfl
theorem w6_25 : W (pj lw) 6 25 L S k n H Q ↔ W (pj lw) 6 26 L (.int 2 :: S) k n H Q := W_s (rfl : (pj lw).1 6 25 = some (.iconst 2, 1, 0)) rfl rfl rfl
theorem w6_26 {x : Int32} : W (pj lw) 6 26 L (.int x :: S) k n H Q ↔ Q (some (.int x)) H := W_r (rfl : (pj lw).1 6 26 = some (.ireturn, 1, 0)) rfl
theorem w6_27 {x : Nat} : W (pj lw) 6 27 (.val (.ref x) :: L) S k n H Q ↔ W (pj lw) 6 28 (.val (.ref x) :: L) (.ref x :: S) k n H Q := W_s (rfl : (pj lw).1 6 27 = some (.aload_n 0, 1, 0)) rfl rfl rfl
theorem w6_28 {a : Nat} : W (pj lw) 6 28 L (.ref a :: S) k n H Q ↔ (isO H a = true ∧ W (pj lw) 6 31 L (fld H a 6 :: S) k n H Q) := W_getf (rfl : (pj lw).1 6 28 = some (.getfield 81, 3, 6))
theorem w6_31 {x : Nat} : W (pj lw) 6 31 (.val (.ref x) :: L) S k n H Q ↔ W (pj lw) 6 32 (.val (.ref x) :: L) (.ref x :: S) k n H Q := W_s (rfl : (pj lw).1 6 31 = some (.aload_n 0, 1, 0)) rfl rfl rfl
theorem w6_32 {a : Nat} : W (pj lw) 6 32 L (.ref a :: S) k n H Q ↔ (isO H a = true ∧ W (pj lw) 6 35 L (fld H a 1 :: S) k n H Q) := W_getf (rfl : (pj lw).1 6 32 = some (.getfield 60, 3, 1))
theorem w6_35 {x y : Int32} : W (pj lw) 6 35 L (.int y :: .int x :: S) k n H Q ↔ (if y < x then W (pj lw) 6 38 L S k n H Q else W (pj lw) 6 40 L S k n H Q) := W_icmp_le (rfl : (pj lw).1 6 35 = some (.if_icmp .le 5, 3, 0)) rfl
theorem w6_38 : W (pj lw) 6 38 L S k n H Q ↔ W (pj lw) 6 39 L (.int 3 :: S) k n H Q := W_s (rfl : (pj lw).1 6 38 = some (.iconst 3, 1, 0)) rfl rfl rfl
theorem w6_39 {x : Int32} : W (pj lw) 6 39 L (.int x :: S) k n H Q ↔ Q (some (.int x)) H := W_r (rfl : (pj lw).1 6 39 = some (.ireturn, 1, 0)) rfl
theorem w6_40 {x : Nat} : W (pj lw) 6 40 (.val (.ref x) :: L) S k n H Q ↔ W (pj lw) 6 41 (.val (.ref x) :: L) (.ref x :: S) k n H Q := W_s (rfl : (pj lw).1 6 40 = some (.aload_n 0, 1, 0)) rfl rfl rfl
theorem w6_41 {x : Nat} : W (pj lw) 6 41 (.val (.ref x) :: L) S k n H Q ↔ W (pj lw) 6 42 (.val (.ref x) :: L) (.ref x :: S) k n H Q := W_s (rfl : (pj lw).1 6 41 = some (.aload_n 0, 1, 0)) rfl rfl rfl
theorem w6_42 {a : Nat} : W (pj lw) 6 42 L (.ref a :: S) k n H Q ↔ (isO H a = true ∧ W (pj lw) 6 45 L (fld H a 7 :: S) k n H Q) := W_getf (rfl : (pj lw).1 6 42 = some (.getfield 78, 3, 7))
theorem w6_45 {a : Nat} {v : Value} : W (pj lw) 6 45 L (v :: .ref a :: S) k n H Q ↔ ((isOw H a = true ∧ okv (.int) v = true) ∧ W (pj lw) 6 48 L S k n (wr H a 11 v) Q) := W_putf (rfl : (pj lw).1 6 45 = some (.putfield 84, 3, 11))
theorem w6_48 {x : Nat} : W (pj lw) 6 48 (.val (.ref x) :: L) S k n H Q ↔ W (pj lw) 6 49 (.val (.ref x) :: L) (.ref x :: S) k n H Q := W_s (rfl : (pj lw).1 6 48 = some (.aload_n 0, 1, 0)) rfl rfl rfl
theorem w6_49 {x : Nat} : W (pj lw) 6 49 (.val (.ref x) :: L) S k n H Q ↔ W (pj lw) 6 50 (.val (.ref x) :: L) (.ref x :: S) k n H Q := W_s (rfl : (pj lw).1 6 49 = some (.aload_n 0, 1, 0)) rfl rfl rfl
theorem w6_50 {a : Nat} : W (pj lw) 6 50 L (.ref a :: S) k n H Q ↔ (isO H a = true ∧ W (pj lw) 6 53 L (fld H a 8 :: S) k n H Q) := W_getf (rfl : (pj lw).1 6 50 = some (.getfield 87, 3, 8))
theorem w6_53 {a : Nat} {v : Value} : W (pj lw) 6 53 L (v :: .ref a :: S) k n H Q ↔ ((isOw H a = true ∧ okv (.int) v = true) ∧ W (pj lw) 6 56 L S k n (wr H a 12 v) Q) := W_putf (rfl : (pj lw).1 6 53 = some (.putfield 90, 3, 12))
theorem w6_56 {x : Nat} : W (pj lw) 6 56 (.val (.ref x) :: L) S k n H Q ↔ W (pj lw) 6 57 (.val (.ref x) :: L) (.ref x :: S) k n H Q := W_s (rfl : (pj lw).1 6 56 = some (.aload_n 0, 1, 0)) rfl rfl rfl
theorem w6_57 {x : Nat} : W (pj lw) 6 57 (.val (.ref x) :: L) S k n H Q ↔ W (pj lw) 6 58 (.val (.ref x) :: L) (.ref x :: S) k n H Q := W_s (rfl : (pj lw).1 6 57 = some (.aload_n 0, 1, 0)) rfl rfl rfl
theorem w6_58 {a : Nat} : W (pj lw) 6 58 L (.ref a :: S) k n H Q ↔ (isO H a = true ∧ W (pj lw) 6 61 L (fld H a 6 :: S) k n H Q) := W_getf (rfl : (pj lw).1 6 58 = some (.getfield 81, 3, 6))
theorem w6_61 {a : Nat} {v : Value} : W (pj lw) 6 61 L (v :: .ref a :: S) k n H Q ↔ ((isOw H a = true ∧ okv (.int) v = true) ∧ W (pj lw) 6 64 L S k n (wr H a 13 v) Q) := W_putf (rfl : (pj lw).1 6 61 = some (.putfield 93, 3, 13))
theorem w6_64 : W (pj lw) 6 64 L S k n H Q ↔ W (pj lw) 6 65 L (.int 0 :: S) k n H Q := W_s (rfl : (pj lw).1 6 64 = some (.iconst 0, 1, 0)) rfl rfl rfl
theorem w6_65 {x : Int32} {l0 : Slot} : W (pj lw) 6 65 (l0 :: .unset :: L) (.int x :: S) k n H Q ↔ W (pj lw) 6 66 (l0 :: .val (.int x) :: L) S k n H Q := W_istn (rfl : (pj lw).1 6 65 = some (.istore_n 1, 1, 0)) rfl rfl
theorem w6_66 {x : Int32} {l0 : Slot} : W (pj lw) 6 66 (l0 :: .val (.int x) :: L) S k n H Q ↔ W (pj lw) 6 67 (l0 :: .val (.int x) :: L) (.int x :: S) k n H Q := W_s (rfl : (pj lw).1 6 66 = some (.iload_n 1, 1, 0)) rfl rfl rfl
theorem w6_67 : W (pj lw) 6 67 L S k n H Q ↔ W (pj lw) 6 69 L (.int 8 :: S) k n H Q := W_s (rfl : (pj lw).1 6 67 = some (.bipush 8, 2, 0)) rfl rfl rfl
theorem w6_69 {x y : Int32} : W (pj lw) 6 69 L (.int y :: .int x :: S) k n H Q ↔ (if x < y then W (pj lw) 6 72 L S k n H Q else W (pj lw) 6 102 L S k n H Q) := W_icmp_ge (rfl : (pj lw).1 6 69 = some (.if_icmp .ge 33, 3, 0)) rfl
theorem w6_72 {x : Nat} : W (pj lw) 6 72 (.val (.ref x) :: L) S k n H Q ↔ W (pj lw) 6 73 (.val (.ref x) :: L) (.ref x :: S) k n H Q := W_s (rfl : (pj lw).1 6 72 = some (.aload_n 0, 1, 0)) rfl rfl rfl
theorem w6_73 {a : Nat} : W (pj lw) 6 73 L (.ref a :: S) k n H Q ↔ (isO H a = true ∧ W (pj lw) 6 76 L (fld H a 14 :: S) k n H Q) := W_getf (rfl : (pj lw).1 6 73 = some (.getfield 19, 3, 14))
theorem w6_76 {x : Int32} {l0 : Slot} : W (pj lw) 6 76 (l0 :: .val (.int x) :: L) S k n H Q ↔ W (pj lw) 6 77 (l0 :: .val (.int x) :: L) (.int x :: S) k n H Q := W_s (rfl : (pj lw).1 6 76 = some (.iload_n 1, 1, 0)) rfl rfl rfl
theorem w6_77 {x : Int32} {l0 : Slot} : W (pj lw) 6 77 (l0 :: .val (.int x) :: L) S k n H Q ↔ W (pj lw) 6 78 (l0 :: .val (.int x) :: L) (.int x :: S) k n H Q := W_s (rfl : (pj lw).1 6 77 = some (.iload_n 1, 1, 0)) rfl rfl rfl
theorem w6_78 {x : Nat} : W (pj lw) 6 78 (.val (.ref x) :: L) S k n H Q ↔ W (pj lw) 6 79 (.val (.ref x) :: L) (.ref x :: S) k n H Q := W_s (rfl : (pj lw).1 6 78 = some (.aload_n 0, 1, 0)) rfl rfl rfl
theorem w6_79 {a : Nat} : W (pj lw) 6 79 L (.ref a :: S) k n H Q ↔ (isO H a = true ∧ W (pj lw) 6 82 L (fld H a 13 :: S) k n H Q) := W_getf (rfl : (pj lw).1 6 79 = some (.getfield 93, 3, 13))
theorem w6_82 {x y : Int32} : W (pj lw) 6 82 L (.int y :: .int x :: S) k n H Q ↔ (if x < y then W (pj lw) 6 85 L S k n H Q else W (pj lw) 6 94 L S k n H Q) := W_icmp_ge (rfl : (pj lw).1 6 82 = some (.if_icmp .ge 12, 3, 0)) rfl
theorem w6_85 {x : Nat} : W (pj lw) 6 85 (.val (.ref x) :: L) S k n H Q ↔ W (pj lw) 6 86 (.val (.ref x) :: L) (.ref x :: S) k n H Q := W_s (rfl : (pj lw).1 6 85 = some (.aload_n 0, 1, 0)) rfl rfl rfl
theorem w6_86 {a : Nat} : W (pj lw) 6 86 L (.ref a :: S) k n H Q ↔ (isO H a = true ∧ W (pj lw) 6 89 L (fld H a 5 :: S) k n H Q) := W_getf (rfl : (pj lw).1 6 86 = some (.getfield 16, 3, 5))
theorem w6_89 {x : Int32} {l0 : Slot} : W (pj lw) 6 89 (l0 :: .val (.int x) :: L) S k n H Q ↔ W (pj lw) 6 90 (l0 :: .val (.int x) :: L) (.int x :: S) k n H Q := W_s (rfl : (pj lw).1 6 89 = some (.iload_n 1, 1, 0)) rfl rfl rfl
theorem w6_90 {i : Int32} {a : Nat} : W (pj lw) 6 90 L (.int i :: .ref a :: S) k n H Q ↔ (inA H a .int i = true ∧ W (pj lw) 6 91 L (elt H a i :: S) k n H Q) := W_iaload (rfl : (pj lw).1 6 90 = some (.iaload, 1, 0))
theorem w6_91 : W (pj lw) 6 91 L S k n H Q ↔ W (pj lw) 6 95 L S k n H Q := W_goto (rfl : (pj lw).1 6 91 = some (.goto 4, 3, 0)) rfl
theorem w6_94 : W (pj lw) 6 94 L S k n H Q ↔ W (pj lw) 6 95 L (.int 0 :: S) k n H Q := W_s (rfl : (pj lw).1 6 94 = some (.iconst 0, 1, 0)) rfl rfl rfl
theorem w6_95 {x i : Int32} {a : Nat} : W (pj lw) 6 95 L (.int x :: .int i :: .ref a :: S) k n H Q ↔ (inAw H a .int i = true ∧ W (pj lw) 6 96 L S k n (wr H a i.toNatClampNeg (.int x)) Q) := W_iastore (rfl : (pj lw).1 6 95 = some (.iastore, 1, 0))
theorem w6_96 {x : Int32} {l0 : Slot} : W (pj lw) 6 96 (l0 :: .val (.int x) :: L) S k n H Q ↔ W (pj lw) 6 99 (l0 :: .val (.int (x + 1)) :: L) S k n H Q := W_s (rfl : (pj lw).1 6 96 = some (.iinc 1 1, 3, 0)) rfl rfl rfl
theorem w6_99 : W (pj lw) 6 99 L S k n H Q ↔ W (pj lw) 6 66 L S k n H Q := W_goto (rfl : (pj lw).1 6 99 = some (.goto (-33), 3, 0)) rfl
theorem w6_102 {x : Nat} : W (pj lw) 6 102 (.val (.ref x) :: L) S k n H Q ↔ W (pj lw) 6 103 (.val (.ref x) :: L) (.ref x :: S) k n H Q := W_s (rfl : (pj lw).1 6 102 = some (.aload_n 0, 1, 0)) rfl rfl rfl
theorem w6_103 {a : Nat} : W (pj lw) 6 103 L (.ref a :: S) k n H Q ↔ ((isO H a = true ∧ cs S + (8 + 11) + 46 ≤ 77) ∧ Cl (pj lw) 29 [.ref a] H (fun v H => W (pj lw) 6 106 L (v.toList ++ S) k n H Q)) := W_inst (as := []) (rfl : (pj lw).1 6 103 = some (.invokevirtual 96, 3, 29)) rfl rfl rfl (Nat.le_of_ble_eq_true rfl) (Nat.le_of_ble_eq_true rfl) ⟨rfl, rfl⟩
theorem w6_106 {x : Nat} : W (pj lw) 6 106 (.val (.ref x) :: L) S k n H Q ↔ W (pj lw) 6 107 (.val (.ref x) :: L) (.ref x :: S) k n H Q := W_s (rfl : (pj lw).1 6 106 = some (.aload_n 0, 1, 0)) rfl rfl rfl
theorem w6_107 {a : Nat} : W (pj lw) 6 107 L (.ref a :: S) k n H Q ↔ ((isO H a = true ∧ cs S + (5 + 11) + 0 ≤ 77) ∧ Cl (pj lw) 36 [.ref a] H (fun v H => W (pj lw) 6 110 L (v.toList ++ S) k n H Q)) := W_inst (as := []) (rfl : (pj lw).1 6 107 = some (.invokevirtual 99, 3, 36)) rfl rfl rfl (Nat.le_of_ble_eq_true rfl) (Nat.le_of_ble_eq_true rfl) ⟨rfl, rfl⟩
theorem w6_110 {x : Int32} : W (pj lw) 6 110 L (.int x :: S) k n H Q ↔ (if x = 0 then W (pj lw) 6 113 L S k n H Q else W (pj lw) 6 115 L S k n H Q) := W_if_ne (rfl : (pj lw).1 6 110 = some (.ifCond .ne 5, 3, 0)) rfl
theorem w6_113 : W (pj lw) 6 113 L S k n H Q ↔ W (pj lw) 6 114 L (.int 4 :: S) k n H Q := W_s (rfl : (pj lw).1 6 113 = some (.iconst 4, 1, 0)) rfl rfl rfl
theorem w6_114 {x : Int32} : W (pj lw) 6 114 L (.int x :: S) k n H Q ↔ Q (some (.int x)) H := W_r (rfl : (pj lw).1 6 114 = some (.ireturn, 1, 0)) rfl
theorem w6_115 {x : Nat} : W (pj lw) 6 115 (.val (.ref x) :: L) S k n H Q ↔ W (pj lw) 6 116 (.val (.ref x) :: L) (.ref x :: S) k n H Q := W_s (rfl : (pj lw).1 6 115 = some (.aload_n 0, 1, 0)) rfl rfl rfl
theorem w6_116 {a : Nat} : W (pj lw) 6 116 L (.ref a :: S) k n H Q ↔ ((isO H a = true ∧ cs S + (5 + 11) + 0 ≤ 77) ∧ Cl (pj lw) 37 [.ref a] H (fun v H => W (pj lw) 6 119 L (v.toList ++ S) k n H Q)) := W_inst (as := []) (rfl : (pj lw).1 6 116 = some (.invokevirtual 102, 3, 37)) rfl rfl rfl (Nat.le_of_ble_eq_true rfl) (Nat.le_of_ble_eq_true rfl) ⟨rfl, rfl⟩
theorem w6_119 {x : Nat} : W (pj lw) 6 119 (.val (.ref x) :: L) S k n H Q ↔ W (pj lw) 6 120 (.val (.ref x) :: L) (.ref x :: S) k n H Q := W_s (rfl : (pj lw).1 6 119 = some (.aload_n 0, 1, 0)) rfl rfl rfl
theorem w6_120 {x : Nat} : W (pj lw) 6 120 (.val (.ref x) :: L) S k n H Q ↔ W (pj lw) 6 121 (.val (.ref x) :: L) (.ref x :: S) k n H Q := W_s (rfl : (pj lw).1 6 120 = some (.aload_n 0, 1, 0)) rfl rfl rfl
theorem w6_121 {a : Nat} : W (pj lw) 6 121 L (.ref a :: S) k n H Q ↔ (isO H a = true ∧ W (pj lw) 6 124 L (fld H a 13 :: S) k n H Q) := W_getf (rfl : (pj lw).1 6 121 = some (.getfield 93, 3, 13))
theorem w6_124 : W (pj lw) 6 124 L S k n H Q ↔ W (pj lw) 6 125 L (.int 1 :: S) k n H Q := W_s (rfl : (pj lw).1 6 124 = some (.iconst 1, 1, 0)) rfl rfl rfl
theorem w6_125 {x y : Int32} : W (pj lw) 6 125 L (.int y :: .int x :: S) k n H Q ↔ W (pj lw) 6 126 L (.int (x + y) :: S) k n H Q := W_s (rfl : (pj lw).1 6 125 = some (.iadd, 1, 0)) rfl rfl rfl
theorem w6_126 {x : Nat} : W (pj lw) 6 126 (.val (.ref x) :: L) S k n H Q ↔ W (pj lw) 6 127 (.val (.ref x) :: L) (.ref x :: S) k n H Q := W_s (rfl : (pj lw).1 6 126 = some (.aload_n 0, 1, 0)) rfl rfl rfl
theorem w6_127 {a : Nat} : W (pj lw) 6 127 L (.ref a :: S) k n H Q ↔ (isO H a = true ∧ W (pj lw) 6 130 L (fld H a 11 :: S) k n H Q) := W_getf (rfl : (pj lw).1 6 127 = some (.getfield 84, 3, 11))
theorem w6_130 {a : Nat} {x0 : Int32} {x1 : Int32} : W (pj lw) 6 130 L (.int x1 :: .int x0 :: .ref a :: S) k n H Q ↔ ((isO H a = true ∧ cs S + (11 + 11) + 22 ≤ 77) ∧ Cl (pj lw) 38 [.ref a, .int x0, .int x1] H (fun v H => W (pj lw) 6 133 L (v.toList ++ S) k n H Q)) := W_inst (as := [.int x0, .int x1]) (rfl : (pj lw).1 6 130 = some (.invokevirtual 105, 3, 38)) rfl rfl rfl (Nat.le_of_ble_eq_true rfl) (Nat.le_of_ble_eq_true rfl) ⟨rfl, rfl⟩
theorem w6_133i {y : Int32} {x : Int32} {l0 : Slot} : W (pj lw) 6 133 (l0 :: .val (.int y) :: L) (.int x :: S) k n H Q ↔ W (pj lw) 6 134 (l0 :: .val (.int x) :: L) S k n H Q := W_istn (rfl : (pj lw).1 6 133 = some (.istore_n 1, 1, 0)) rfl rfl
theorem w6_134 {x : Nat} : W (pj lw) 6 134 (.val (.ref x) :: L) S k n H Q ↔ W (pj lw) 6 135 (.val (.ref x) :: L) (.ref x :: S) k n H Q := W_s (rfl : (pj lw).1 6 134 = some (.aload_n 0, 1, 0)) rfl rfl rfl
theorem w6_135 {a : Nat} : W (pj lw) 6 135 L (.ref a :: S) k n H Q ↔ (isO H a = true ∧ W (pj lw) 6 138 L (fld H a 11 :: S) k n H Q) := W_getf (rfl : (pj lw).1 6 135 = some (.getfield 84, 3, 11))
theorem w6_138 {x : Int32} {l0 : Slot} : W (pj lw) 6 138 (l0 :: .val (.int x) :: L) S k n H Q ↔ W (pj lw) 6 139 (l0 :: .val (.int x) :: L) (.int x :: S) k n H Q := W_s (rfl : (pj lw).1 6 138 = some (.iload_n 1, 1, 0)) rfl rfl rfl
theorem w6_139 {x y : Int32} : W (pj lw) 6 139 L (.int y :: .int x :: S) k n H Q ↔ W (pj lw) 6 140 L (.int (x - y) :: S) k n H Q := W_s (rfl : (pj lw).1 6 139 = some (.isub, 1, 0)) rfl rfl rfl
theorem w6_140 {x : Int32} {l0 l1 : Slot} : W (pj lw) 6 140 (l0 :: l1 :: .unset :: L) (.int x :: S) k n H Q ↔ W (pj lw) 6 141 (l0 :: l1 :: .val (.int x) :: L) S k n H Q := W_istn (rfl : (pj lw).1 6 140 = some (.istore_n 2, 1, 0)) rfl rfl
theorem w6_141 {x : Int32} {l0 l1 : Slot} : W (pj lw) 6 141 (l0 :: l1 :: .val (.int x) :: L) S k n H Q ↔ W (pj lw) 6 142 (l0 :: l1 :: .val (.int x) :: L) (.int x :: S) k n H Q := W_s (rfl : (pj lw).1 6 141 = some (.iload_n 2, 1, 0)) rfl rfl rfl
theorem w6_142 : W (pj lw) 6 142 L S k n H Q ↔ W (pj lw) 6 143 L (.int 2 :: S) k n H Q := W_s (rfl : (pj lw).1 6 142 = some (.iconst 2, 1, 0)) rfl rfl rfl
theorem w6_143 {x y : Int32} : W (pj lw) 6 143 L (.int y :: .int x :: S) k n H Q ↔ (if x < y then W (pj lw) 6 148 L S k n H Q else W (pj lw) 6 146 L S k n H Q) := W_icmp_lt (rfl : (pj lw).1 6 143 = some (.if_icmp .lt 5, 3, 0)) rfl
theorem w6_146 : W (pj lw) 6 146 L S k n H Q ↔ W (pj lw) 6 147 L (.int 5 :: S) k n H Q := W_s (rfl : (pj lw).1 6 146 = some (.iconst 5, 1, 0)) rfl rfl rfl
theorem w6_147 {x : Int32} : W (pj lw) 6 147 L (.int x :: S) k n H Q ↔ Q (some (.int x)) H := W_r (rfl : (pj lw).1 6 147 = some (.ireturn, 1, 0)) rfl
theorem w6_148 {x : Int32} {l0 l1 : Slot} : W (pj lw) 6 148 (l0 :: l1 :: .val (.int x) :: L) S k n H Q ↔ W (pj lw) 6 149 (l0 :: l1 :: .val (.int x) :: L) (.int x :: S) k n H Q := W_s (rfl : (pj lw).1 6 148 = some (.iload_n 2, 1, 0)) rfl rfl rfl
theorem w6_149 : W (pj lw) 6 149 L S k n H Q ↔ W (pj lw) 6 150 L (.int 1 :: S) k n H Q := W_s (rfl : (pj lw).1 6 149 = some (.iconst 1, 1, 0)) rfl rfl rfl
theorem w6_150 {x y : Int32} : W (pj lw) 6 150 L (.int y :: .int x :: S) k n H Q ↔ (if x < y then W (pj lw) 6 153 L S k n H Q else W (pj lw) 6 156 L S k n H Q) := W_icmp_ge (rfl : (pj lw).1 6 150 = some (.if_icmp .ge 6, 3, 0)) rfl
theorem w6_153 : W (pj lw) 6 153 L S k n H Q ↔ W (pj lw) 6 155 L (.int 6 :: S) k n H Q := W_s (rfl : (pj lw).1 6 153 = some (.bipush 6, 2, 0)) rfl rfl rfl
theorem w6_155 {x : Int32} : W (pj lw) 6 155 L (.int x :: S) k n H Q ↔ Q (some (.int x)) H := W_r (rfl : (pj lw).1 6 155 = some (.ireturn, 1, 0)) rfl
theorem w6_156 {x : Nat} : W (pj lw) 6 156 (.val (.ref x) :: L) S k n H Q ↔ W (pj lw) 6 157 (.val (.ref x) :: L) (.ref x :: S) k n H Q := W_s (rfl : (pj lw).1 6 156 = some (.aload_n 0, 1, 0)) rfl rfl rfl
theorem w6_157 {x : Int32} {l0 : Slot} : W (pj lw) 6 157 (l0 :: .val (.int x) :: L) S k n H Q ↔ W (pj lw) 6 158 (l0 :: .val (.int x) :: L) (.int x :: S) k n H Q := W_s (rfl : (pj lw).1 6 157 = some (.iload_n 1, 1, 0)) rfl rfl rfl
theorem w6_158 {a : Nat} {x0 : Int32} : W (pj lw) 6 158 L (.int x0 :: .ref a :: S) k n H Q ↔ ((isO H a = true ∧ cs S + (3 + 11) + 63 ≤ 77) ∧ Cl (pj lw) 42 [.ref a, .int x0] H (fun v H => W (pj lw) 6 161 L (v.toList ++ S) k n H Q)) := W_inst (as := [.int x0]) (rfl : (pj lw).1 6 158 = some (.invokevirtual 109, 3, 42)) rfl rfl rfl (Nat.le_of_ble_eq_true rfl) (Nat.le_of_ble_eq_true rfl) ⟨rfl, rfl⟩
theorem w6_161 {x : Int32} : W (pj lw) 6 161 L (.int x :: S) k n H Q ↔ (if x = 0 then W (pj lw) 6 164 L S k n H Q else W (pj lw) 6 167 L S k n H Q) := W_if_ne (rfl : (pj lw).1 6 161 = some (.ifCond .ne 6, 3, 0)) rfl
theorem w6_164 : W (pj lw) 6 164 L S k n H Q ↔ W (pj lw) 6 166 L (.int 6 :: S) k n H Q := W_s (rfl : (pj lw).1 6 164 = some (.bipush 6, 2, 0)) rfl rfl rfl
theorem w6_166 {x : Int32} : W (pj lw) 6 166 L (.int x :: S) k n H Q ↔ Q (some (.int x)) H := W_r (rfl : (pj lw).1 6 166 = some (.ireturn, 1, 0)) rfl
theorem w6_167 : W (pj lw) 6 167 L S k n H Q ↔ W (pj lw) 6 168 L (.int 0 :: S) k n H Q := W_s (rfl : (pj lw).1 6 167 = some (.iconst 0, 1, 0)) rfl rfl rfl
theorem w6_168 {x : Int32} {l0 l1 l2 : Slot} : W (pj lw) 6 168 (l0 :: l1 :: l2 :: .unset :: L) (.int x :: S) k n H Q ↔ W (pj lw) 6 169 (l0 :: l1 :: l2 :: .val (.int x) :: L) S k n H Q := W_istn (rfl : (pj lw).1 6 168 = some (.istore_n 3, 1, 0)) rfl rfl
theorem w6_169 {x : Int32} {l0 l1 l2 : Slot} : W (pj lw) 6 169 (l0 :: l1 :: l2 :: .val (.int x) :: L) S k n H Q ↔ W (pj lw) 6 170 (l0 :: l1 :: l2 :: .val (.int x) :: L) (.int x :: S) k n H Q := W_s (rfl : (pj lw).1 6 169 = some (.iload_n 3, 1, 0)) rfl rfl rfl
theorem w6_170 : W (pj lw) 6 170 L S k n H Q ↔ W (pj lw) 6 172 L (.int 6 :: S) k n H Q := W_s (rfl : (pj lw).1 6 170 = some (.bipush 6, 2, 0)) rfl rfl rfl
theorem w6_172 {x y : Int32} : W (pj lw) 6 172 L (.int y :: .int x :: S) k n H Q ↔ (if x < y then W (pj lw) 6 175 L S k n H Q else W (pj lw) 6 188 L S k n H Q) := W_icmp_ge (rfl : (pj lw).1 6 172 = some (.if_icmp .ge 16, 3, 0)) rfl
theorem w6_175 {x : Nat} : W (pj lw) 6 175 (.val (.ref x) :: L) S k n H Q ↔ W (pj lw) 6 176 (.val (.ref x) :: L) (.ref x :: S) k n H Q := W_s (rfl : (pj lw).1 6 175 = some (.aload_n 0, 1, 0)) rfl rfl rfl
theorem w6_176 {a : Nat} : W (pj lw) 6 176 L (.ref a :: S) k n H Q ↔ (isO H a = true ∧ W (pj lw) 6 179 L (fld H a 18 :: S) k n H Q) := W_getf (rfl : (pj lw).1 6 176 = some (.getfield 32, 3, 18))
theorem w6_179 {x : Int32} {l0 l1 l2 : Slot} : W (pj lw) 6 179 (l0 :: l1 :: l2 :: .val (.int x) :: L) S k n H Q ↔ W (pj lw) 6 180 (l0 :: l1 :: l2 :: .val (.int x) :: L) (.int x :: S) k n H Q := W_s (rfl : (pj lw).1 6 179 = some (.iload_n 3, 1, 0)) rfl rfl rfl
theorem w6_180 : W (pj lw) 6 180 L S k n H Q ↔ W (pj lw) 6 181 L (.long 0 :: S) k n H Q := W_s (rfl : (pj lw).1 6 180 = some (.lconst 0, 1, 0)) rfl rfl rfl
theorem w6_181 {x : Int64} {i : Int32} {a : Nat} : W (pj lw) 6 181 L (.long x :: .int i :: .ref a :: S) k n H Q ↔ (inAw H a .long i = true ∧ W (pj lw) 6 182 L S k n (wr H a i.toNatClampNeg (.long x)) Q) := W_lastore (rfl : (pj lw).1 6 181 = some (.lastore, 1, 0))
theorem w6_182 {x : Int32} {l0 l1 l2 : Slot} : W (pj lw) 6 182 (l0 :: l1 :: l2 :: .val (.int x) :: L) S k n H Q ↔ W (pj lw) 6 185 (l0 :: l1 :: l2 :: .val (.int (x + 1)) :: L) S k n H Q := W_s (rfl : (pj lw).1 6 182 = some (.iinc 3 1, 3, 0)) rfl rfl rfl
theorem w6_185 : W (pj lw) 6 185 L S k n H Q ↔ W (pj lw) 6 169 L S k n H Q := W_goto (rfl : (pj lw).1 6 185 = some (.goto (-16), 3, 0)) rfl
theorem w6_188 {x : Nat} : W (pj lw) 6 188 (.val (.ref x) :: L) S k n H Q ↔ W (pj lw) 6 189 (.val (.ref x) :: L) (.ref x :: S) k n H Q := W_s (rfl : (pj lw).1 6 188 = some (.aload_n 0, 1, 0)) rfl rfl rfl
theorem w6_189 : W (pj lw) 6 189 L S k n H Q ↔ W (pj lw) 6 190 L (.int 1 :: S) k n H Q := W_s (rfl : (pj lw).1 6 189 = some (.iconst 1, 1, 0)) rfl rfl rfl
theorem w6_190 {a : Nat} {v : Value} : W (pj lw) 6 190 L (v :: .ref a :: S) k n H Q ↔ ((isOw H a = true ∧ okv (.boolean) v = true) ∧ W (pj lw) 6 193 L S k n (wr H a 10 v) Q) := W_putf (rfl : (pj lw).1 6 190 = some (.putfield 66, 3, 10))
theorem w6_193 : W (pj lw) 6 193 L S k n H Q ↔ W (pj lw) 6 194 L (.int 0 :: S) k n H Q := W_s (rfl : (pj lw).1 6 193 = some (.iconst 0, 1, 0)) rfl rfl rfl
theorem w6_194 {x : Int32} : W (pj lw) 6 194 L (.int x :: S) k n H Q ↔ Q (some (.int x)) H := W_r (rfl : (pj lw).1 6 194 = some (.ireturn, 1, 0)) rfl
theorem c7 {x0 : Nat} : Cl (pj lw) 7 [.ref x0] H Q ↔ W (pj lw) 7 0 [.val (.ref x0)] [] 0 0 H Q := cl_unf rfl
theorem w7_0 {x : Nat} : W (pj lw) 7 0 (.val (.ref x) :: L) S k n H Q ↔ W (pj lw) 7 1 (.val (.ref x) :: L) (.ref x :: S) k n H Q := W_s (rfl : (pj lw).1 7 0 = some (.aload_n 0, 1, 0)) rfl rfl rfl
theorem w7_1 {a : Nat} : W (pj lw) 7 1 L (.ref a :: S) k n H Q ↔ (isO H a = true ∧ W (pj lw) 7 4 L (fld H a 10 :: S) k n H Q) := W_getf (rfl : (pj lw).1 7 1 = some (.getfield 66, 3, 10))
theorem w7_4 {x : Int32} : W (pj lw) 7 4 L (.int x :: S) k n H Q ↔ (if x = 0 then W (pj lw) 7 14 L S k n H Q else W (pj lw) 7 7 L S k n H Q) := W_if_eq (rfl : (pj lw).1 7 4 = some (.ifCond .eq 10, 3, 0)) rfl
theorem w7_7 {x : Nat} : W (pj lw) 7 7 (.val (.ref x) :: L) S k n H Q ↔ W (pj lw) 7 8 (.val (.ref x) :: L) (.ref x :: S) k n H Q := W_s (rfl : (pj lw).1 7 7 = some (.aload_n 0, 1, 0)) rfl rfl rfl
theorem w7_8 {a : Nat} : W (pj lw) 7 8 L (.ref a :: S) k n H Q ↔ (isO H a = true ∧ W (pj lw) 7 11 L (fld H a 11 :: S) k n H Q) := W_getf (rfl : (pj lw).1 7 8 = some (.getfield 84, 3, 11))
theorem w7_11 : W (pj lw) 7 11 L S k n H Q ↔ W (pj lw) 7 15 L S k n H Q := W_goto (rfl : (pj lw).1 7 11 = some (.goto 4, 3, 0)) rfl
theorem w7_14 : W (pj lw) 7 14 L S k n H Q ↔ W (pj lw) 7 15 L (.int 0 :: S) k n H Q := W_s (rfl : (pj lw).1 7 14 = some (.iconst 0, 1, 0)) rfl rfl rfl
theorem w7_15 {x : Int32} : W (pj lw) 7 15 L (.int x :: S) k n H Q ↔ Q (some (.int x)) H := W_r (rfl : (pj lw).1 7 15 = some (.ireturn, 1, 0)) rfl
theorem c8 {x0 : Nat} : Cl (pj lw) 8 [.ref x0] H Q ↔ W (pj lw) 8 0 [.val (.ref x0)] [] 0 0 H Q := cl_unf rfl
theorem w8_0 {x : Nat} : W (pj lw) 8 0 (.val (.ref x) :: L) S k n H Q ↔ W (pj lw) 8 1 (.val (.ref x) :: L) (.ref x :: S) k n H Q := W_s (rfl : (pj lw).1 8 0 = some (.aload_n 0, 1, 0)) rfl rfl rfl
theorem w8_1 {a : Nat} : W (pj lw) 8 1 L (.ref a :: S) k n H Q ↔ (isO H a = true ∧ W (pj lw) 8 4 L (fld H a 10 :: S) k n H Q) := W_getf (rfl : (pj lw).1 8 1 = some (.getfield 66, 3, 10))
theorem w8_4 {x : Int32} : W (pj lw) 8 4 L (.int x :: S) k n H Q ↔ (if x = 0 then W (pj lw) 8 14 L S k n H Q else W (pj lw) 8 7 L S k n H Q) := W_if_eq (rfl : (pj lw).1 8 4 = some (.ifCond .eq 10, 3, 0)) rfl
theorem w8_7 {x : Nat} : W (pj lw) 8 7 (.val (.ref x) :: L) S k n H Q ↔ W (pj lw) 8 8 (.val (.ref x) :: L) (.ref x :: S) k n H Q := W_s (rfl : (pj lw).1 8 7 = some (.aload_n 0, 1, 0)) rfl rfl rfl
theorem w8_8 {a : Nat} : W (pj lw) 8 8 L (.ref a :: S) k n H Q ↔ (isO H a = true ∧ W (pj lw) 8 11 L (fld H a 12 :: S) k n H Q) := W_getf (rfl : (pj lw).1 8 8 = some (.getfield 90, 3, 12))
theorem w8_11 : W (pj lw) 8 11 L S k n H Q ↔ W (pj lw) 8 15 L S k n H Q := W_goto (rfl : (pj lw).1 8 11 = some (.goto 4, 3, 0)) rfl
theorem w8_14 : W (pj lw) 8 14 L S k n H Q ↔ W (pj lw) 8 15 L (.int 0 :: S) k n H Q := W_s (rfl : (pj lw).1 8 14 = some (.iconst 0, 1, 0)) rfl rfl rfl
theorem w8_15 {x : Int32} : W (pj lw) 8 15 L (.int x :: S) k n H Q ↔ Q (some (.int x)) H := W_r (rfl : (pj lw).1 8 15 = some (.ireturn, 1, 0)) rfl
theorem c9 {x0 : Nat} : Cl (pj lw) 9 [.ref x0] H Q ↔ W (pj lw) 9 0 [.val (.ref x0)] [] 0 0 H Q := cl_unf rfl
theorem w9_0 {x : Nat} : W (pj lw) 9 0 (.val (.ref x) :: L) S k n H Q ↔ W (pj lw) 9 1 (.val (.ref x) :: L) (.ref x :: S) k n H Q := W_s (rfl : (pj lw).1 9 0 = some (.aload_n 0, 1, 0)) rfl rfl rfl
theorem w9_1 {a : Nat} : W (pj lw) 9 1 L (.ref a :: S) k n H Q ↔ (isO H a = true ∧ W (pj lw) 9 4 L (fld H a 10 :: S) k n H Q) := W_getf (rfl : (pj lw).1 9 1 = some (.getfield 66, 3, 10))
theorem w9_4 {x : Int32} : W (pj lw) 9 4 L (.int x :: S) k n H Q ↔ (if x = 0 then W (pj lw) 9 14 L S k n H Q else W (pj lw) 9 7 L S k n H Q) := W_if_eq (rfl : (pj lw).1 9 4 = some (.ifCond .eq 10, 3, 0)) rfl
theorem w9_7 {x : Nat} : W (pj lw) 9 7 (.val (.ref x) :: L) S k n H Q ↔ W (pj lw) 9 8 (.val (.ref x) :: L) (.ref x :: S) k n H Q := W_s (rfl : (pj lw).1 9 7 = some (.aload_n 0, 1, 0)) rfl rfl rfl
theorem w9_8 {a : Nat} : W (pj lw) 9 8 L (.ref a :: S) k n H Q ↔ (isO H a = true ∧ W (pj lw) 9 11 L (fld H a 13 :: S) k n H Q) := W_getf (rfl : (pj lw).1 9 8 = some (.getfield 93, 3, 13))
theorem w9_11 : W (pj lw) 9 11 L S k n H Q ↔ W (pj lw) 9 15 L S k n H Q := W_goto (rfl : (pj lw).1 9 11 = some (.goto 4, 3, 0)) rfl
theorem w9_14 : W (pj lw) 9 14 L S k n H Q ↔ W (pj lw) 9 15 L (.int 0 :: S) k n H Q := W_s (rfl : (pj lw).1 9 14 = some (.iconst 0, 1, 0)) rfl rfl rfl
theorem w9_15 {x : Int32} : W (pj lw) 9 15 L (.int x :: S) k n H Q ↔ Q (some (.int x)) H := W_r (rfl : (pj lw).1 9 15 = some (.ireturn, 1, 0)) rfl
theorem c10 {x0 : Nat} {x1 : Int32} : Cl (pj lw) 10 [.ref x0, .int x1] H Q ↔ W (pj lw) 10 0 [.val (.ref x0), .val (.int x1)] [] 0 0 H Q := cl_unf rfl
theorem w10_0 {x : Nat} : W (pj lw) 10 0 (.val (.ref x) :: L) S k n H Q ↔ W (pj lw) 10 1 (.val (.ref x) :: L) (.ref x :: S) k n H Q := W_s (rfl : (pj lw).1 10 0 = some (.aload_n 0, 1, 0)) rfl rfl rfl
theorem w10_1 {a : Nat} : W (pj lw) 10 1 L (.ref a :: S) k n H Q ↔ (isO H a = true ∧ W (pj lw) 10 4 L (fld H a 10 :: S) k n H Q) := W_getf (rfl : (pj lw).1 10 1 = some (.getfield 66, 3, 10))
theorem w10_4 {x : Int32} : W (pj lw) 10 4 L (.int x :: S) k n H Q ↔ (if x = 0 then W (pj lw) 10 25 L S k n H Q else W (pj lw) 10 7 L S k n H Q) := W_if_eq (rfl : (pj lw).1 10 4 = some (.ifCond .eq 21, 3, 0)) rfl
theorem w10_7 {x : Int32} {l0 : Slot} : W (pj lw) 10 7 (l0 :: .val (.int x) :: L) S k n H Q ↔ W (pj lw) 10 8 (l0 :: .val (.int x) :: L) (.int x :: S) k n H Q := W_s (rfl : (pj lw).1 10 7 = some (.iload_n 1, 1, 0)) rfl rfl rfl
theorem w10_8 {x : Int32} : W (pj lw) 10 8 L (.int x :: S) k n H Q ↔ (if x < 0 then W (pj lw) 10 25 L S k n H Q else W (pj lw) 10 11 L S k n H Q) := W_if_lt (rfl : (pj lw).1 10 8 = some (.ifCond .lt 17, 3, 0)) rfl
theorem w10_11 {x : Int32} {l0 : Slot} : W (pj lw) 10 11 (l0 :: .val (.int x) :: L) S k n H Q ↔ W (pj lw) 10 12 (l0 :: .val (.int x) :: L) (.int x :: S) k n H Q := W_s (rfl : (pj lw).1 10 11 = some (.iload_n 1, 1, 0)) rfl rfl rfl
theorem w10_12 {x : Nat} : W (pj lw) 10 12 (.val (.ref x) :: L) S k n H Q ↔ W (pj lw) 10 13 (.val (.ref x) :: L) (.ref x :: S) k n H Q := W_s (rfl : (pj lw).1 10 12 = some (.aload_n 0, 1, 0)) rfl rfl rfl
theorem w10_13 {a : Nat} : W (pj lw) 10 13 L (.ref a :: S) k n H Q ↔ (isO H a = true ∧ W (pj lw) 10 16 L (fld H a 13 :: S) k n H Q) := W_getf (rfl : (pj lw).1 10 13 = some (.getfield 93, 3, 13))
theorem w10_16 {x y : Int32} : W (pj lw) 10 16 L (.int y :: .int x :: S) k n H Q ↔ (if x < y then W (pj lw) 10 19 L S k n H Q else W (pj lw) 10 25 L S k n H Q) := W_icmp_ge (rfl : (pj lw).1 10 16 = some (.if_icmp .ge 9, 3, 0)) rfl
theorem w10_19 {x : Int32} {l0 : Slot} : W (pj lw) 10 19 (l0 :: .val (.int x) :: L) S k n H Q ↔ W (pj lw) 10 20 (l0 :: .val (.int x) :: L) (.int x :: S) k n H Q := W_s (rfl : (pj lw).1 10 19 = some (.iload_n 1, 1, 0)) rfl rfl rfl
theorem w10_20 : W (pj lw) 10 20 L S k n H Q ↔ W (pj lw) 10 22 L (.int 8 :: S) k n H Q := W_s (rfl : (pj lw).1 10 20 = some (.bipush 8, 2, 0)) rfl rfl rfl
theorem w10_22 {x y : Int32} : W (pj lw) 10 22 L (.int y :: .int x :: S) k n H Q ↔ (if x < y then W (pj lw) 10 27 L S k n H Q else W (pj lw) 10 25 L S k n H Q) := W_icmp_lt (rfl : (pj lw).1 10 22 = some (.if_icmp .lt 5, 3, 0)) rfl
theorem w10_25 : W (pj lw) 10 25 L S k n H Q ↔ W (pj lw) 10 26 L (.int (-1) :: S) k n H Q := W_s (rfl : (pj lw).1 10 25 = some (.iconst (-1), 1, 0)) rfl rfl rfl
theorem w10_26 {x : Int32} : W (pj lw) 10 26 L (.int x :: S) k n H Q ↔ Q (some (.int x)) H := W_r (rfl : (pj lw).1 10 26 = some (.ireturn, 1, 0)) rfl
theorem w10_27 {x : Nat} : W (pj lw) 10 27 (.val (.ref x) :: L) S k n H Q ↔ W (pj lw) 10 28 (.val (.ref x) :: L) (.ref x :: S) k n H Q := W_s (rfl : (pj lw).1 10 27 = some (.aload_n 0, 1, 0)) rfl rfl rfl
theorem w10_28 {a : Nat} : W (pj lw) 10 28 L (.ref a :: S) k n H Q ↔ (isO H a = true ∧ W (pj lw) 10 31 L (fld H a 14 :: S) k n H Q) := W_getf (rfl : (pj lw).1 10 28 = some (.getfield 19, 3, 14))
theorem w10_31 {x : Int32} {l0 : Slot} : W (pj lw) 10 31 (l0 :: .val (.int x) :: L) S k n H Q ↔ W (pj lw) 10 32 (l0 :: .val (.int x) :: L) (.int x :: S) k n H Q := W_s (rfl : (pj lw).1 10 31 = some (.iload_n 1, 1, 0)) rfl rfl rfl
theorem w10_32 {i : Int32} {a : Nat} : W (pj lw) 10 32 L (.int i :: .ref a :: S) k n H Q ↔ (inA H a .int i = true ∧ W (pj lw) 10 33 L (elt H a i :: S) k n H Q) := W_iaload (rfl : (pj lw).1 10 32 = some (.iaload, 1, 0))
theorem w10_33 {x : Int32} : W (pj lw) 10 33 L (.int x :: S) k n H Q ↔ Q (some (.int x)) H := W_r (rfl : (pj lw).1 10 33 = some (.ireturn, 1, 0)) rfl
theorem c11 {x0 : Nat} {x1 : Int32} {x2 : Int32} : Cl (pj lw) 11 [.ref x0, .int x1, .int x2] H Q ↔ W (pj lw) 11 0 [.val (.ref x0), .val (.int x1), .val (.int x2)] [] 0 0 H Q := cl_unf rfl
theorem w11_0 {x : Nat} : W (pj lw) 11 0 (.val (.ref x) :: L) S k n H Q ↔ W (pj lw) 11 1 (.val (.ref x) :: L) (.ref x :: S) k n H Q := W_s (rfl : (pj lw).1 11 0 = some (.aload_n 0, 1, 0)) rfl rfl rfl
theorem w11_1 {x : Int32} {l0 : Slot} : W (pj lw) 11 1 (l0 :: .val (.int x) :: L) S k n H Q ↔ W (pj lw) 11 2 (l0 :: .val (.int x) :: L) (.int x :: S) k n H Q := W_s (rfl : (pj lw).1 11 1 = some (.iload_n 1, 1, 0)) rfl rfl rfl
theorem w11_2 {a : Nat} {x0 : Int32} : W (pj lw) 11 2 L (.int x0 :: .ref a :: S) k n H Q ↔ ((isO H a = true ∧ cs S + (2 + 11) + 0 ≤ 13) ∧ Cl (pj lw) 18 [.ref a, .int x0] H (fun v H => W (pj lw) 11 5 L (v.toList ++ S) k n H Q)) := W_inst (as := [.int x0]) (rfl : (pj lw).1 11 2 = some (.invokevirtual 112, 3, 18)) rfl rfl rfl (Nat.le_of_ble_eq_true rfl) (Nat.le_of_ble_eq_true rfl) ⟨rfl, rfl⟩
theorem w11_5 {x : Int32} : W (pj lw) 11 5 L (.int x :: S) k n H Q ↔ (if x = 0 then W (pj lw) 11 26 L S k n H Q else W (pj lw) 11 8 L S k n H Q) := W_if_eq (rfl : (pj lw).1 11 5 = some (.ifCond .eq 21, 3, 0)) rfl
theorem w11_8 {x : Int32} {l0 l1 : Slot} : W (pj lw) 11 8 (l0 :: l1 :: .val (.int x) :: L) S k n H Q ↔ W (pj lw) 11 9 (l0 :: l1 :: .val (.int x) :: L) (.int x :: S) k n H Q := W_s (rfl : (pj lw).1 11 8 = some (.iload_n 2, 1, 0)) rfl rfl rfl
theorem w11_9 {x : Int32} : W (pj lw) 11 9 L (.int x :: S) k n H Q ↔ (if x < 0 then W (pj lw) 11 26 L S k n H Q else W (pj lw) 11 12 L S k n H Q) := W_if_lt (rfl : (pj lw).1 11 9 = some (.ifCond .lt 17, 3, 0)) rfl
theorem w11_12 {x : Int32} {l0 l1 : Slot} : W (pj lw) 11 12 (l0 :: l1 :: .val (.int x) :: L) S k n H Q ↔ W (pj lw) 11 13 (l0 :: l1 :: .val (.int x) :: L) (.int x :: S) k n H Q := W_s (rfl : (pj lw).1 11 12 = some (.iload_n 2, 1, 0)) rfl rfl rfl
theorem w11_13 {x : Nat} : W (pj lw) 11 13 (.val (.ref x) :: L) S k n H Q ↔ W (pj lw) 11 14 (.val (.ref x) :: L) (.ref x :: S) k n H Q := W_s (rfl : (pj lw).1 11 13 = some (.aload_n 0, 1, 0)) rfl rfl rfl
theorem w11_14 {a : Nat} : W (pj lw) 11 14 L (.ref a :: S) k n H Q ↔ (isO H a = true ∧ W (pj lw) 11 17 L (fld H a 13 :: S) k n H Q) := W_getf (rfl : (pj lw).1 11 14 = some (.getfield 93, 3, 13))
theorem w11_17 {x y : Int32} : W (pj lw) 11 17 L (.int y :: .int x :: S) k n H Q ↔ (if x < y then W (pj lw) 11 20 L S k n H Q else W (pj lw) 11 26 L S k n H Q) := W_icmp_ge (rfl : (pj lw).1 11 17 = some (.if_icmp .ge 9, 3, 0)) rfl
theorem w11_20 {x : Int32} {l0 l1 : Slot} : W (pj lw) 11 20 (l0 :: l1 :: .val (.int x) :: L) S k n H Q ↔ W (pj lw) 11 21 (l0 :: l1 :: .val (.int x) :: L) (.int x :: S) k n H Q := W_s (rfl : (pj lw).1 11 20 = some (.iload_n 2, 1, 0)) rfl rfl rfl
theorem w11_21 : W (pj lw) 11 21 L S k n H Q ↔ W (pj lw) 11 23 L (.int 8 :: S) k n H Q := W_s (rfl : (pj lw).1 11 21 = some (.bipush 8, 2, 0)) rfl rfl rfl
theorem w11_23 {x y : Int32} : W (pj lw) 11 23 L (.int y :: .int x :: S) k n H Q ↔ (if x < y then W (pj lw) 11 28 L S k n H Q else W (pj lw) 11 26 L S k n H Q) := W_icmp_lt (rfl : (pj lw).1 11 23 = some (.if_icmp .lt 5, 3, 0)) rfl
theorem w11_26 : W (pj lw) 11 26 L S k n H Q ↔ W (pj lw) 11 27 L (.int 0 :: S) k n H Q := W_s (rfl : (pj lw).1 11 26 = some (.iconst 0, 1, 0)) rfl rfl rfl
theorem w11_27 {x : Int32} : W (pj lw) 11 27 L (.int x :: S) k n H Q ↔ Q (some (.int x)) H := W_r (rfl : (pj lw).1 11 27 = some (.ireturn, 1, 0)) rfl
theorem w11_28 {x : Nat} : W (pj lw) 11 28 (.val (.ref x) :: L) S k n H Q ↔ W (pj lw) 11 29 (.val (.ref x) :: L) (.ref x :: S) k n H Q := W_s (rfl : (pj lw).1 11 28 = some (.aload_n 0, 1, 0)) rfl rfl rfl
theorem w11_29 {a : Nat} : W (pj lw) 11 29 L (.ref a :: S) k n H Q ↔ (isO H a = true ∧ W (pj lw) 11 32 L (fld H a 15 :: S) k n H Q) := W_getf (rfl : (pj lw).1 11 29 = some (.getfield 22, 3, 15))
theorem w11_32 {x : Int32} {l0 : Slot} : W (pj lw) 11 32 (l0 :: .val (.int x) :: L) S k n H Q ↔ W (pj lw) 11 33 (l0 :: .val (.int x) :: L) (.int x :: S) k n H Q := W_s (rfl : (pj lw).1 11 32 = some (.iload_n 1, 1, 0)) rfl rfl rfl
theorem w11_33 : W (pj lw) 11 33 L S k n H Q ↔ W (pj lw) 11 35 L (.int 8 :: S) k n H Q := W_s (rfl : (pj lw).1 11 33 = some (.bipush 8, 2, 0)) rfl rfl rfl
theorem w11_35 {x y : Int32} : W (pj lw) 11 35 L (.int y :: .int x :: S) k n H Q ↔ W (pj lw) 11 36 L (.int (x * y) :: S) k n H Q := W_s (rfl : (pj lw).1 11 35 = some (.imul, 1, 0)) rfl rfl rfl
theorem w11_36 {x : Int32} {l0 l1 : Slot} : W (pj lw) 11 36 (l0 :: l1 :: .val (.int x) :: L) S k n H Q ↔ W (pj lw) 11 37 (l0 :: l1 :: .val (.int x) :: L) (.int x :: S) k n H Q := W_s (rfl : (pj lw).1 11 36 = some (.iload_n 2, 1, 0)) rfl rfl rfl
theorem w11_37 {x y : Int32} : W (pj lw) 11 37 L (.int y :: .int x :: S) k n H Q ↔ W (pj lw) 11 38 L (.int (x + y) :: S) k n H Q := W_s (rfl : (pj lw).1 11 37 = some (.iadd, 1, 0)) rfl rfl rfl
theorem w11_38 {i : Int32} {a : Nat} : W (pj lw) 11 38 L (.int i :: .ref a :: S) k n H Q ↔ (inA H a .int i = true ∧ W (pj lw) 11 39 L (elt H a i :: S) k n H Q) := W_iaload (rfl : (pj lw).1 11 38 = some (.iaload, 1, 0))
theorem w11_39 {x : Int32} : W (pj lw) 11 39 L (.int x :: S) k n H Q ↔ Q (some (.int x)) H := W_r (rfl : (pj lw).1 11 39 = some (.ireturn, 1, 0)) rfl
theorem c13 {x0 : Nat} {x1 : Int32} : Cl (pj lw) 13 [.ref x0, .int x1] H Q ↔ W (pj lw) 13 0 [.val (.ref x0), .val (.int x1)] [] 0 0 H Q := cl_unf rfl
theorem w13_0 {x : Nat} : W (pj lw) 13 0 (.val (.ref x) :: L) S k n H Q ↔ W (pj lw) 13 1 (.val (.ref x) :: L) (.ref x :: S) k n H Q := W_s (rfl : (pj lw).1 13 0 = some (.aload_n 0, 1, 0)) rfl rfl rfl
theorem w13_1 {x : Int32} {l0 : Slot} : W (pj lw) 13 1 (l0 :: .val (.int x) :: L) S k n H Q ↔ W (pj lw) 13 2 (l0 :: .val (.int x) :: L) (.int x :: S) k n H Q := W_s (rfl : (pj lw).1 13 1 = some (.iload_n 1, 1, 0)) rfl rfl rfl
theorem w13_2 {a : Nat} {x0 : Int32} : W (pj lw) 13 2 L (.int x0 :: .ref a :: S) k n H Q ↔ ((isO H a = true ∧ cs S + (2 + 11) + 0 ≤ 13) ∧ Cl (pj lw) 18 [.ref a, .int x0] H (fun v H => W (pj lw) 13 5 L (v.toList ++ S) k n H Q)) := W_inst (as := [.int x0]) (rfl : (pj lw).1 13 2 = some (.invokevirtual 112, 3, 18)) rfl rfl rfl (Nat.le_of_ble_eq_true rfl) (Nat.le_of_ble_eq_true rfl) ⟨rfl, rfl⟩
theorem w13_5 {x : Int32} : W (pj lw) 13 5 L (.int x :: S) k n H Q ↔ (if x = 0 then W (pj lw) 13 8 L S k n H Q else W (pj lw) 13 10 L S k n H Q) := W_if_ne (rfl : (pj lw).1 13 5 = some (.ifCond .ne 5, 3, 0)) rfl
theorem w13_8 : W (pj lw) 13 8 L S k n H Q ↔ W (pj lw) 13 9 L (.long 0 :: S) k n H Q := W_s (rfl : (pj lw).1 13 8 = some (.lconst 0, 1, 0)) rfl rfl rfl
theorem w13_9 {x : Int64} : W (pj lw) 13 9 L (.long x :: S) k n H Q ↔ Q (some (.long x)) H := W_r (rfl : (pj lw).1 13 9 = some (.lreturn, 1, 0)) rfl
theorem w13_10 {x : Nat} : W (pj lw) 13 10 (.val (.ref x) :: L) S k n H Q ↔ W (pj lw) 13 11 (.val (.ref x) :: L) (.ref x :: S) k n H Q := W_s (rfl : (pj lw).1 13 10 = some (.aload_n 0, 1, 0)) rfl rfl rfl
theorem w13_11 {a : Nat} : W (pj lw) 13 11 L (.ref a :: S) k n H Q ↔ (isO H a = true ∧ W (pj lw) 13 14 L (fld H a 17 :: S) k n H Q) := W_getf (rfl : (pj lw).1 13 11 = some (.getfield 28, 3, 17))
theorem w13_14 {x : Int32} {l0 : Slot} : W (pj lw) 13 14 (l0 :: .val (.int x) :: L) S k n H Q ↔ W (pj lw) 13 15 (l0 :: .val (.int x) :: L) (.int x :: S) k n H Q := W_s (rfl : (pj lw).1 13 14 = some (.iload_n 1, 1, 0)) rfl rfl rfl
theorem w13_15 {i : Int32} {a : Nat} : W (pj lw) 13 15 L (.int i :: .ref a :: S) k n H Q ↔ (inA H a .long i = true ∧ W (pj lw) 13 16 L (elt H a i :: S) k n H Q) := W_laload (rfl : (pj lw).1 13 15 = some (.laload, 1, 0))
theorem w13_16 {x : Int64} : W (pj lw) 13 16 L (.long x :: S) k n H Q ↔ Q (some (.long x)) H := W_r (rfl : (pj lw).1 13 16 = some (.lreturn, 1, 0)) rfl
theorem c18 {x0 : Nat} {x1 : Int32} : Cl (pj lw) 18 [.ref x0, .int x1] H Q ↔ W (pj lw) 18 0 [.val (.ref x0), .val (.int x1)] [] 0 0 H Q := cl_unf rfl
theorem w18_0 {x : Nat} : W (pj lw) 18 0 (.val (.ref x) :: L) S k n H Q ↔ W (pj lw) 18 1 (.val (.ref x) :: L) (.ref x :: S) k n H Q := W_s (rfl : (pj lw).1 18 0 = some (.aload_n 0, 1, 0)) rfl rfl rfl
theorem w18_1 {a : Nat} : W (pj lw) 18 1 L (.ref a :: S) k n H Q ↔ (isO H a = true ∧ W (pj lw) 18 4 L (fld H a 10 :: S) k n H Q) := W_getf (rfl : (pj lw).1 18 1 = some (.getfield 66, 3, 10))
theorem w18_4 {x : Int32} : W (pj lw) 18 4 L (.int x :: S) k n H Q ↔ (if x = 0 then W (pj lw) 18 29 L S k n H Q else W (pj lw) 18 7 L S k n H Q) := W_if_eq (rfl : (pj lw).1 18 4 = some (.ifCond .eq 25, 3, 0)) rfl
theorem w18_7 {x : Int32} {l0 : Slot} : W (pj lw) 18 7 (l0 :: .val (.int x) :: L) S k n H Q ↔ W (pj lw) 18 8 (l0 :: .val (.int x) :: L) (.int x :: S) k n H Q := W_s (rfl : (pj lw).1 18 7 = some (.iload_n 1, 1, 0)) rfl rfl rfl
theorem w18_8 {x : Int32} : W (pj lw) 18 8 L (.int x :: S) k n H Q ↔ (if x < 0 then W (pj lw) 18 29 L S k n H Q else W (pj lw) 18 11 L S k n H Q) := W_if_lt (rfl : (pj lw).1 18 8 = some (.ifCond .lt 21, 3, 0)) rfl
theorem w18_11 {x : Int32} {l0 : Slot} : W (pj lw) 18 11 (l0 :: .val (.int x) :: L) S k n H Q ↔ W (pj lw) 18 12 (l0 :: .val (.int x) :: L) (.int x :: S) k n H Q := W_s (rfl : (pj lw).1 18 11 = some (.iload_n 1, 1, 0)) rfl rfl rfl
theorem w18_12 {x : Nat} : W (pj lw) 18 12 (.val (.ref x) :: L) S k n H Q ↔ W (pj lw) 18 13 (.val (.ref x) :: L) (.ref x :: S) k n H Q := W_s (rfl : (pj lw).1 18 12 = some (.aload_n 0, 1, 0)) rfl rfl rfl
theorem w18_13 {a : Nat} : W (pj lw) 18 13 L (.ref a :: S) k n H Q ↔ (isO H a = true ∧ W (pj lw) 18 16 L (fld H a 11 :: S) k n H Q) := W_getf (rfl : (pj lw).1 18 13 = some (.getfield 84, 3, 11))
theorem w18_16 {x y : Int32} : W (pj lw) 18 16 L (.int y :: .int x :: S) k n H Q ↔ (if x < y then W (pj lw) 18 19 L S k n H Q else W (pj lw) 18 29 L S k n H Q) := W_icmp_ge (rfl : (pj lw).1 18 16 = some (.if_icmp .ge 13, 3, 0)) rfl
theorem w18_19 {x : Int32} {l0 : Slot} : W (pj lw) 18 19 (l0 :: .val (.int x) :: L) S k n H Q ↔ W (pj lw) 18 20 (l0 :: .val (.int x) :: L) (.int x :: S) k n H Q := W_s (rfl : (pj lw).1 18 19 = some (.iload_n 1, 1, 0)) rfl rfl rfl
theorem w18_20 : W (pj lw) 18 20 L S k n H Q ↔ W (pj lw) 18 22 L (.int 6 :: S) k n H Q := W_s (rfl : (pj lw).1 18 20 = some (.bipush 6, 2, 0)) rfl rfl rfl
theorem w18_22 {x y : Int32} : W (pj lw) 18 22 L (.int y :: .int x :: S) k n H Q ↔ (if x < y then W (pj lw) 18 25 L S k n H Q else W (pj lw) 18 29 L S k n H Q) := W_icmp_ge (rfl : (pj lw).1 18 22 = some (.if_icmp .ge 7, 3, 0)) rfl
theorem w18_25 : W (pj lw) 18 25 L S k n H Q ↔ W (pj lw) 18 26 L (.int 1 :: S) k n H Q := W_s (rfl : (pj lw).1 18 25 = some (.iconst 1, 1, 0)) rfl rfl rfl
theorem w18_26 : W (pj lw) 18 26 L S k n H Q ↔ W (pj lw) 18 30 L S k n H Q := W_goto (rfl : (pj lw).1 18 26 = some (.goto 4, 3, 0)) rfl
theorem w18_29 : W (pj lw) 18 29 L S k n H Q ↔ W (pj lw) 18 30 L (.int 0 :: S) k n H Q := W_s (rfl : (pj lw).1 18 29 = some (.iconst 0, 1, 0)) rfl rfl rfl
theorem w18_30 {x : Int32} : W (pj lw) 18 30 L (.int x :: S) k n H Q ↔ ((x = 0 ∨ x = 1) ∧ Q (some (.int x)) H) := W_rz (rfl : (pj lw).1 18 30 = some (.ireturn, 1, 0)) rfl
theorem c20 {x0 : Nat} {x1 : Int32} : Cl (pj lw) 20 [.ref x0, .int x1] H Q ↔ W (pj lw) 20 0 [.val (.ref x0), .val (.int x1)] [] 0 0 H Q := cl_unf rfl
theorem w20_0 {x : Int32} {l0 : Slot} : W (pj lw) 20 0 (l0 :: .val (.int x) :: L) S k n H Q ↔ W (pj lw) 20 1 (l0 :: .val (.int x) :: L) (.int x :: S) k n H Q := W_s (rfl : (pj lw).1 20 0 = some (.iload_n 1, 1, 0)) rfl rfl rfl
theorem w20_1 : W (pj lw) 20 1 L S k n H Q ↔ W (pj lw) 20 3 L (.int 65 :: S) k n H Q := W_s (rfl : (pj lw).1 20 1 = some (.bipush 65, 2, 0)) rfl rfl rfl
theorem w20_3 {x y : Int32} : W (pj lw) 20 3 L (.int y :: .int x :: S) k n H Q ↔ (if x < y then W (pj lw) 20 16 L S k n H Q else W (pj lw) 20 6 L S k n H Q) := W_icmp_lt (rfl : (pj lw).1 20 3 = some (.if_icmp .lt 13, 3, 0)) rfl
theorem w20_6 {x : Int32} {l0 : Slot} : W (pj lw) 20 6 (l0 :: .val (.int x) :: L) S k n H Q ↔ W (pj lw) 20 7 (l0 :: .val (.int x) :: L) (.int x :: S) k n H Q := W_s (rfl : (pj lw).1 20 6 = some (.iload_n 1, 1, 0)) rfl rfl rfl
theorem w20_7 : W (pj lw) 20 7 L S k n H Q ↔ W (pj lw) 20 9 L (.int 90 :: S) k n H Q := W_s (rfl : (pj lw).1 20 7 = some (.bipush 90, 2, 0)) rfl rfl rfl
theorem w20_9 {x y : Int32} : W (pj lw) 20 9 L (.int y :: .int x :: S) k n H Q ↔ (if y < x then W (pj lw) 20 16 L S k n H Q else W (pj lw) 20 12 L S k n H Q) := W_icmp_gt (rfl : (pj lw).1 20 9 = some (.if_icmp .gt 7, 3, 0)) rfl
theorem w20_12 : W (pj lw) 20 12 L S k n H Q ↔ W (pj lw) 20 13 L (.int 1 :: S) k n H Q := W_s (rfl : (pj lw).1 20 12 = some (.iconst 1, 1, 0)) rfl rfl rfl
theorem w20_13 : W (pj lw) 20 13 L S k n H Q ↔ W (pj lw) 20 17 L S k n H Q := W_goto (rfl : (pj lw).1 20 13 = some (.goto 4, 3, 0)) rfl
theorem w20_16 : W (pj lw) 20 16 L S k n H Q ↔ W (pj lw) 20 17 L (.int 0 :: S) k n H Q := W_s (rfl : (pj lw).1 20 16 = some (.iconst 0, 1, 0)) rfl rfl rfl
theorem w20_17 {x : Int32} : W (pj lw) 20 17 L (.int x :: S) k n H Q ↔ ((x = 0 ∨ x = 1) ∧ Q (some (.int x)) H) := W_rz (rfl : (pj lw).1 20 17 = some (.ireturn, 1, 0)) rfl
theorem c21 {x0 : Nat} {x1 : Int32} : Cl (pj lw) 21 [.ref x0, .int x1] H Q ↔ W (pj lw) 21 0 [.val (.ref x0), .val (.int x1)] [] 0 0 H Q := cl_unf rfl
theorem w21_0 {x : Int32} {l0 : Slot} : W (pj lw) 21 0 (l0 :: .val (.int x) :: L) S k n H Q ↔ W (pj lw) 21 1 (l0 :: .val (.int x) :: L) (.int x :: S) k n H Q := W_s (rfl : (pj lw).1 21 0 = some (.iload_n 1, 1, 0)) rfl rfl rfl
theorem w21_1 : W (pj lw) 21 1 L S k n H Q ↔ W (pj lw) 21 3 L (.int 97 :: S) k n H Q := W_s (rfl : (pj lw).1 21 1 = some (.bipush 97, 2, 0)) rfl rfl rfl
theorem w21_3 {x y : Int32} : W (pj lw) 21 3 L (.int y :: .int x :: S) k n H Q ↔ (if x < y then W (pj lw) 21 16 L S k n H Q else W (pj lw) 21 6 L S k n H Q) := W_icmp_lt (rfl : (pj lw).1 21 3 = some (.if_icmp .lt 13, 3, 0)) rfl
theorem w21_6 {x : Int32} {l0 : Slot} : W (pj lw) 21 6 (l0 :: .val (.int x) :: L) S k n H Q ↔ W (pj lw) 21 7 (l0 :: .val (.int x) :: L) (.int x :: S) k n H Q := W_s (rfl : (pj lw).1 21 6 = some (.iload_n 1, 1, 0)) rfl rfl rfl
theorem w21_7 : W (pj lw) 21 7 L S k n H Q ↔ W (pj lw) 21 9 L (.int 122 :: S) k n H Q := W_s (rfl : (pj lw).1 21 7 = some (.bipush 122, 2, 0)) rfl rfl rfl
theorem w21_9 {x y : Int32} : W (pj lw) 21 9 L (.int y :: .int x :: S) k n H Q ↔ (if y < x then W (pj lw) 21 16 L S k n H Q else W (pj lw) 21 12 L S k n H Q) := W_icmp_gt (rfl : (pj lw).1 21 9 = some (.if_icmp .gt 7, 3, 0)) rfl
theorem w21_12 : W (pj lw) 21 12 L S k n H Q ↔ W (pj lw) 21 13 L (.int 1 :: S) k n H Q := W_s (rfl : (pj lw).1 21 12 = some (.iconst 1, 1, 0)) rfl rfl rfl
theorem w21_13 : W (pj lw) 21 13 L S k n H Q ↔ W (pj lw) 21 17 L S k n H Q := W_goto (rfl : (pj lw).1 21 13 = some (.goto 4, 3, 0)) rfl
theorem w21_16 : W (pj lw) 21 16 L S k n H Q ↔ W (pj lw) 21 17 L (.int 0 :: S) k n H Q := W_s (rfl : (pj lw).1 21 16 = some (.iconst 0, 1, 0)) rfl rfl rfl
theorem w21_17 {x : Int32} : W (pj lw) 21 17 L (.int x :: S) k n H Q ↔ ((x = 0 ∨ x = 1) ∧ Q (some (.int x)) H) := W_rz (rfl : (pj lw).1 21 17 = some (.ireturn, 1, 0)) rfl
theorem c22 {x0 : Nat} {x1 : Int32} : Cl (pj lw) 22 [.ref x0, .int x1] H Q ↔ W (pj lw) 22 0 [.val (.ref x0), .val (.int x1)] [] 0 0 H Q := cl_unf rfl
theorem w22_0 {x : Int32} {l0 : Slot} : W (pj lw) 22 0 (l0 :: .val (.int x) :: L) S k n H Q ↔ W (pj lw) 22 1 (l0 :: .val (.int x) :: L) (.int x :: S) k n H Q := W_s (rfl : (pj lw).1 22 0 = some (.iload_n 1, 1, 0)) rfl rfl rfl
theorem w22_1 : W (pj lw) 22 1 L S k n H Q ↔ W (pj lw) 22 3 L (.int 48 :: S) k n H Q := W_s (rfl : (pj lw).1 22 1 = some (.bipush 48, 2, 0)) rfl rfl rfl
theorem w22_3 {x y : Int32} : W (pj lw) 22 3 L (.int y :: .int x :: S) k n H Q ↔ (if x < y then W (pj lw) 22 16 L S k n H Q else W (pj lw) 22 6 L S k n H Q) := W_icmp_lt (rfl : (pj lw).1 22 3 = some (.if_icmp .lt 13, 3, 0)) rfl
theorem w22_6 {x : Int32} {l0 : Slot} : W (pj lw) 22 6 (l0 :: .val (.int x) :: L) S k n H Q ↔ W (pj lw) 22 7 (l0 :: .val (.int x) :: L) (.int x :: S) k n H Q := W_s (rfl : (pj lw).1 22 6 = some (.iload_n 1, 1, 0)) rfl rfl rfl
theorem w22_7 : W (pj lw) 22 7 L S k n H Q ↔ W (pj lw) 22 9 L (.int 57 :: S) k n H Q := W_s (rfl : (pj lw).1 22 7 = some (.bipush 57, 2, 0)) rfl rfl rfl
theorem w22_9 {x y : Int32} : W (pj lw) 22 9 L (.int y :: .int x :: S) k n H Q ↔ (if y < x then W (pj lw) 22 16 L S k n H Q else W (pj lw) 22 12 L S k n H Q) := W_icmp_gt (rfl : (pj lw).1 22 9 = some (.if_icmp .gt 7, 3, 0)) rfl
theorem w22_12 : W (pj lw) 22 12 L S k n H Q ↔ W (pj lw) 22 13 L (.int 1 :: S) k n H Q := W_s (rfl : (pj lw).1 22 12 = some (.iconst 1, 1, 0)) rfl rfl rfl
theorem w22_13 : W (pj lw) 22 13 L S k n H Q ↔ W (pj lw) 22 17 L S k n H Q := W_goto (rfl : (pj lw).1 22 13 = some (.goto 4, 3, 0)) rfl
theorem w22_16 : W (pj lw) 22 16 L S k n H Q ↔ W (pj lw) 22 17 L (.int 0 :: S) k n H Q := W_s (rfl : (pj lw).1 22 16 = some (.iconst 0, 1, 0)) rfl rfl rfl
theorem w22_17 {x : Int32} : W (pj lw) 22 17 L (.int x :: S) k n H Q ↔ ((x = 0 ∨ x = 1) ∧ Q (some (.int x)) H) := W_rz (rfl : (pj lw).1 22 17 = some (.ireturn, 1, 0)) rfl
theorem c23 {x0 : Nat} {x1 : Int32} : Cl (pj lw) 23 [.ref x0, .int x1] H Q ↔ W (pj lw) 23 0 [.val (.ref x0), .val (.int x1)] [] 0 0 H Q := cl_unf rfl
theorem w23_0 {x : Nat} : W (pj lw) 23 0 (.val (.ref x) :: L) S k n H Q ↔ W (pj lw) 23 1 (.val (.ref x) :: L) (.ref x :: S) k n H Q := W_s (rfl : (pj lw).1 23 0 = some (.aload_n 0, 1, 0)) rfl rfl rfl
theorem w23_1 {x : Int32} {l0 : Slot} : W (pj lw) 23 1 (l0 :: .val (.int x) :: L) S k n H Q ↔ W (pj lw) 23 2 (l0 :: .val (.int x) :: L) (.int x :: S) k n H Q := W_s (rfl : (pj lw).1 23 1 = some (.iload_n 1, 1, 0)) rfl rfl rfl
theorem w23_2 {a : Nat} {x0 : Int32} : W (pj lw) 23 2 L (.int x0 :: .ref a :: S) k n H Q ↔ ((isO H a = true ∧ cs S + (2 + 11) + 0 ≤ 13) ∧ Cl (pj lw) 20 [.ref a, .int x0] H (fun v H => W (pj lw) 23 5 L (v.toList ++ S) k n H Q)) := W_inst (as := [.int x0]) (rfl : (pj lw).1 23 2 = some (.invokevirtual 122, 3, 20)) rfl rfl rfl (Nat.le_of_ble_eq_true rfl) (Nat.le_of_ble_eq_true rfl) ⟨rfl, rfl⟩
theorem w23_5 {x : Int32} : W (pj lw) 23 5 L (.int x :: S) k n H Q ↔ (if x = 0 then W (pj lw) 23 8 L S k n H Q else W (pj lw) 23 24 L S k n H Q) := W_if_ne (rfl : (pj lw).1 23 5 = some (.ifCond .ne 19, 3, 0)) rfl
theorem w23_8 {x : Nat} : W (pj lw) 23 8 (.val (.ref x) :: L) S k n H Q ↔ W (pj lw) 23 9 (.val (.ref x) :: L) (.ref x :: S) k n H Q := W_s (rfl : (pj lw).1 23 8 = some (.aload_n 0, 1, 0)) rfl rfl rfl
theorem w23_9 {x : Int32} {l0 : Slot} : W (pj lw) 23 9 (l0 :: .val (.int x) :: L) S k n H Q ↔ W (pj lw) 23 10 (l0 :: .val (.int x) :: L) (.int x :: S) k n H Q := W_s (rfl : (pj lw).1 23 9 = some (.iload_n 1, 1, 0)) rfl rfl rfl
theorem w23_10 {a : Nat} {x0 : Int32} : W (pj lw) 23 10 L (.int x0 :: .ref a :: S) k n H Q ↔ ((isO H a = true ∧ cs S + (2 + 11) + 0 ≤ 13) ∧ Cl (pj lw) 21 [.ref a, .int x0] H (fun v H => W (pj lw) 23 13 L (v.toList ++ S) k n H Q)) := W_inst (as := [.int x0]) (rfl : (pj lw).1 23 10 = some (.invokevirtual 125, 3, 21)) rfl rfl rfl (Nat.le_of_ble_eq_true rfl) (Nat.le_of_ble_eq_true rfl) ⟨rfl, rfl⟩
theorem w23_13 {x : Int32} : W (pj lw) 23 13 L (.int x :: S) k n H Q ↔ (if x = 0 then W (pj lw) 23 16 L S k n H Q else W (pj lw) 23 24 L S k n H Q) := W_if_ne (rfl : (pj lw).1 23 13 = some (.ifCond .ne 11, 3, 0)) rfl
theorem w23_16 {x : Nat} : W (pj lw) 23 16 (.val (.ref x) :: L) S k n H Q ↔ W (pj lw) 23 17 (.val (.ref x) :: L) (.ref x :: S) k n H Q := W_s (rfl : (pj lw).1 23 16 = some (.aload_n 0, 1, 0)) rfl rfl rfl
theorem w23_17 {x : Int32} {l0 : Slot} : W (pj lw) 23 17 (l0 :: .val (.int x) :: L) S k n H Q ↔ W (pj lw) 23 18 (l0 :: .val (.int x) :: L) (.int x :: S) k n H Q := W_s (rfl : (pj lw).1 23 17 = some (.iload_n 1, 1, 0)) rfl rfl rfl
theorem w23_18 {a : Nat} {x0 : Int32} : W (pj lw) 23 18 L (.int x0 :: .ref a :: S) k n H Q ↔ ((isO H a = true ∧ cs S + (2 + 11) + 0 ≤ 13) ∧ Cl (pj lw) 22 [.ref a, .int x0] H (fun v H => W (pj lw) 23 21 L (v.toList ++ S) k n H Q)) := W_inst (as := [.int x0]) (rfl : (pj lw).1 23 18 = some (.invokevirtual 128, 3, 22)) rfl rfl rfl (Nat.le_of_ble_eq_true rfl) (Nat.le_of_ble_eq_true rfl) ⟨rfl, rfl⟩
theorem w23_21 {x : Int32} : W (pj lw) 23 21 L (.int x :: S) k n H Q ↔ (if x = 0 then W (pj lw) 23 26 L S k n H Q else W (pj lw) 23 24 L S k n H Q) := W_if_eq (rfl : (pj lw).1 23 21 = some (.ifCond .eq 5, 3, 0)) rfl
theorem w23_24 : W (pj lw) 23 24 L S k n H Q ↔ W (pj lw) 23 25 L (.int 1 :: S) k n H Q := W_s (rfl : (pj lw).1 23 24 = some (.iconst 1, 1, 0)) rfl rfl rfl
theorem w23_25 {x : Int32} : W (pj lw) 23 25 L (.int x :: S) k n H Q ↔ ((x = 0 ∨ x = 1) ∧ Q (some (.int x)) H) := W_rz (rfl : (pj lw).1 23 25 = some (.ireturn, 1, 0)) rfl
theorem w23_26 {x : Int32} {l0 : Slot} : W (pj lw) 23 26 (l0 :: .val (.int x) :: L) S k n H Q ↔ W (pj lw) 23 27 (l0 :: .val (.int x) :: L) (.int x :: S) k n H Q := W_s (rfl : (pj lw).1 23 26 = some (.iload_n 1, 1, 0)) rfl rfl rfl
theorem w23_27 : W (pj lw) 23 27 L S k n H Q ↔ W (pj lw) 23 29 L (.int 40 :: S) k n H Q := W_s (rfl : (pj lw).1 23 27 = some (.bipush 40, 2, 0)) rfl rfl rfl
theorem w23_29 {x y : Int32} : W (pj lw) 23 29 L (.int y :: .int x :: S) k n H Q ↔ (if x = y then W (pj lw) 23 50 L S k n H Q else W (pj lw) 23 32 L S k n H Q) := W_icmp_eq (rfl : (pj lw).1 23 29 = some (.if_icmp .eq 21, 3, 0)) rfl
theorem w23_32 {x : Int32} {l0 : Slot} : W (pj lw) 23 32 (l0 :: .val (.int x) :: L) S k n H Q ↔ W (pj lw) 23 33 (l0 :: .val (.int x) :: L) (.int x :: S) k n H Q := W_s (rfl : (pj lw).1 23 32 = some (.iload_n 1, 1, 0)) rfl rfl rfl
theorem w23_33 : W (pj lw) 23 33 L S k n H Q ↔ W (pj lw) 23 35 L (.int 41 :: S) k n H Q := W_s (rfl : (pj lw).1 23 33 = some (.bipush 41, 2, 0)) rfl rfl rfl
theorem w23_35 {x y : Int32} : W (pj lw) 23 35 L (.int y :: .int x :: S) k n H Q ↔ (if x = y then W (pj lw) 23 50 L S k n H Q else W (pj lw) 23 38 L S k n H Q) := W_icmp_eq (rfl : (pj lw).1 23 35 = some (.if_icmp .eq 15, 3, 0)) rfl
theorem w23_38 {x : Int32} {l0 : Slot} : W (pj lw) 23 38 (l0 :: .val (.int x) :: L) S k n H Q ↔ W (pj lw) 23 39 (l0 :: .val (.int x) :: L) (.int x :: S) k n H Q := W_s (rfl : (pj lw).1 23 38 = some (.iload_n 1, 1, 0)) rfl rfl rfl
theorem w23_39 : W (pj lw) 23 39 L S k n H Q ↔ W (pj lw) 23 41 L (.int 91 :: S) k n H Q := W_s (rfl : (pj lw).1 23 39 = some (.bipush 91, 2, 0)) rfl rfl rfl
theorem w23_41 {x y : Int32} : W (pj lw) 23 41 L (.int y :: .int x :: S) k n H Q ↔ (if x = y then W (pj lw) 23 50 L S k n H Q else W (pj lw) 23 44 L S k n H Q) := W_icmp_eq (rfl : (pj lw).1 23 41 = some (.if_icmp .eq 9, 3, 0)) rfl
theorem w23_44 {x : Int32} {l0 : Slot} : W (pj lw) 23 44 (l0 :: .val (.int x) :: L) S k n H Q ↔ W (pj lw) 23 45 (l0 :: .val (.int x) :: L) (.int x :: S) k n H Q := W_s (rfl : (pj lw).1 23 44 = some (.iload_n 1, 1, 0)) rfl rfl rfl
theorem w23_45 : W (pj lw) 23 45 L S k n H Q ↔ W (pj lw) 23 47 L (.int 93 :: S) k n H Q := W_s (rfl : (pj lw).1 23 45 = some (.bipush 93, 2, 0)) rfl rfl rfl
theorem w23_47 {x y : Int32} : W (pj lw) 23 47 L (.int y :: .int x :: S) k n H Q ↔ (if x = y then W (pj lw) 23 50 L S k n H Q else W (pj lw) 23 52 L S k n H Q) := W_icmp_ne (rfl : (pj lw).1 23 47 = some (.if_icmp .ne 5, 3, 0)) rfl
theorem w23_50 : W (pj lw) 23 50 L S k n H Q ↔ W (pj lw) 23 51 L (.int 1 :: S) k n H Q := W_s (rfl : (pj lw).1 23 50 = some (.iconst 1, 1, 0)) rfl rfl rfl
theorem w23_51 {x : Int32} : W (pj lw) 23 51 L (.int x :: S) k n H Q ↔ ((x = 0 ∨ x = 1) ∧ Q (some (.int x)) H) := W_rz (rfl : (pj lw).1 23 51 = some (.ireturn, 1, 0)) rfl
theorem w23_52 {x : Int32} {l0 : Slot} : W (pj lw) 23 52 (l0 :: .val (.int x) :: L) S k n H Q ↔ W (pj lw) 23 53 (l0 :: .val (.int x) :: L) (.int x :: S) k n H Q := W_s (rfl : (pj lw).1 23 52 = some (.iload_n 1, 1, 0)) rfl rfl rfl
theorem w23_53 : W (pj lw) 23 53 L S k n H Q ↔ W (pj lw) 23 55 L (.int 46 :: S) k n H Q := W_s (rfl : (pj lw).1 23 53 = some (.bipush 46, 2, 0)) rfl rfl rfl
theorem w23_55 {x y : Int32} : W (pj lw) 23 55 L (.int y :: .int x :: S) k n H Q ↔ (if x = y then W (pj lw) 23 82 L S k n H Q else W (pj lw) 23 58 L S k n H Q) := W_icmp_eq (rfl : (pj lw).1 23 55 = some (.if_icmp .eq 27, 3, 0)) rfl
theorem w23_58 {x : Int32} {l0 : Slot} : W (pj lw) 23 58 (l0 :: .val (.int x) :: L) S k n H Q ↔ W (pj lw) 23 59 (l0 :: .val (.int x) :: L) (.int x :: S) k n H Q := W_s (rfl : (pj lw).1 23 58 = some (.iload_n 1, 1, 0)) rfl rfl rfl
theorem w23_59 : W (pj lw) 23 59 L S k n H Q ↔ W (pj lw) 23 61 L (.int 94 :: S) k n H Q := W_s (rfl : (pj lw).1 23 59 = some (.bipush 94, 2, 0)) rfl rfl rfl
theorem w23_61 {x y : Int32} : W (pj lw) 23 61 L (.int y :: .int x :: S) k n H Q ↔ (if x = y then W (pj lw) 23 82 L S k n H Q else W (pj lw) 23 64 L S k n H Q) := W_icmp_eq (rfl : (pj lw).1 23 61 = some (.if_icmp .eq 21, 3, 0)) rfl
theorem w23_64 {x : Int32} {l0 : Slot} : W (pj lw) 23 64 (l0 :: .val (.int x) :: L) S k n H Q ↔ W (pj lw) 23 65 (l0 :: .val (.int x) :: L) (.int x :: S) k n H Q := W_s (rfl : (pj lw).1 23 64 = some (.iload_n 1, 1, 0)) rfl rfl rfl
theorem w23_65 : W (pj lw) 23 65 L S k n H Q ↔ W (pj lw) 23 67 L (.int 43 :: S) k n H Q := W_s (rfl : (pj lw).1 23 65 = some (.bipush 43, 2, 0)) rfl rfl rfl
theorem w23_67 {x y : Int32} : W (pj lw) 23 67 L (.int y :: .int x :: S) k n H Q ↔ (if x = y then W (pj lw) 23 82 L S k n H Q else W (pj lw) 23 70 L S k n H Q) := W_icmp_eq (rfl : (pj lw).1 23 67 = some (.if_icmp .eq 15, 3, 0)) rfl
theorem w23_70 {x : Int32} {l0 : Slot} : W (pj lw) 23 70 (l0 :: .val (.int x) :: L) S k n H Q ↔ W (pj lw) 23 71 (l0 :: .val (.int x) :: L) (.int x :: S) k n H Q := W_s (rfl : (pj lw).1 23 70 = some (.iload_n 1, 1, 0)) rfl rfl rfl
theorem w23_71 : W (pj lw) 23 71 L S k n H Q ↔ W (pj lw) 23 73 L (.int 45 :: S) k n H Q := W_s (rfl : (pj lw).1 23 71 = some (.bipush 45, 2, 0)) rfl rfl rfl
theorem w23_73 {x y : Int32} : W (pj lw) 23 73 L (.int y :: .int x :: S) k n H Q ↔ (if x = y then W (pj lw) 23 82 L S k n H Q else W (pj lw) 23 76 L S k n H Q) := W_icmp_eq (rfl : (pj lw).1 23 73 = some (.if_icmp .eq 9, 3, 0)) rfl
theorem w23_76 {x : Int32} {l0 : Slot} : W (pj lw) 23 76 (l0 :: .val (.int x) :: L) S k n H Q ↔ W (pj lw) 23 77 (l0 :: .val (.int x) :: L) (.int x :: S) k n H Q := W_s (rfl : (pj lw).1 23 76 = some (.iload_n 1, 1, 0)) rfl rfl rfl
theorem w23_77 : W (pj lw) 23 77 L S k n H Q ↔ W (pj lw) 23 79 L (.int 61 :: S) k n H Q := W_s (rfl : (pj lw).1 23 77 = some (.bipush 61, 2, 0)) rfl rfl rfl
theorem w23_79 {x y : Int32} : W (pj lw) 23 79 L (.int y :: .int x :: S) k n H Q ↔ (if x = y then W (pj lw) 23 82 L S k n H Q else W (pj lw) 23 86 L S k n H Q) := W_icmp_ne (rfl : (pj lw).1 23 79 = some (.if_icmp .ne 7, 3, 0)) rfl
theorem w23_82 : W (pj lw) 23 82 L S k n H Q ↔ W (pj lw) 23 83 L (.int 1 :: S) k n H Q := W_s (rfl : (pj lw).1 23 82 = some (.iconst 1, 1, 0)) rfl rfl rfl
theorem w23_83 : W (pj lw) 23 83 L S k n H Q ↔ W (pj lw) 23 87 L S k n H Q := W_goto (rfl : (pj lw).1 23 83 = some (.goto 4, 3, 0)) rfl
theorem w23_86 : W (pj lw) 23 86 L S k n H Q ↔ W (pj lw) 23 87 L (.int 0 :: S) k n H Q := W_s (rfl : (pj lw).1 23 86 = some (.iconst 0, 1, 0)) rfl rfl rfl
theorem w23_87 {x : Int32} : W (pj lw) 23 87 L (.int x :: S) k n H Q ↔ ((x = 0 ∨ x = 1) ∧ Q (some (.int x)) H) := W_rz (rfl : (pj lw).1 23 87 = some (.ireturn, 1, 0)) rfl
theorem c24 {x0 : Nat} : Cl (pj lw) 24 [.ref x0] H Q ↔ W (pj lw) 24 0 [.val (.ref x0), .unset, .unset, .unset, .unset, .unset, .unset, .unset] [] 0 0 H Q := cl_unf rfl
theorem w24_0 {x : Nat} : W (pj lw) 24 0 (.val (.ref x) :: L) S k n H Q ↔ W (pj lw) 24 1 (.val (.ref x) :: L) (.ref x :: S) k n H Q := W_s (rfl : (pj lw).1 24 0 = some (.aload_n 0, 1, 0)) rfl rfl rfl
theorem w24_1 : W (pj lw) 24 1 L S k n H Q ↔ W (pj lw) 24 2 L (.int 0 :: S) k n H Q := W_s (rfl : (pj lw).1 24 1 = some (.iconst 0, 1, 0)) rfl rfl rfl
theorem w24_2 {a : Nat} {v : Value} : W (pj lw) 24 2 L (v :: .ref a :: S) k n H Q ↔ ((isOw H a = true ∧ okv (.int) v = true) ∧ W (pj lw) 24 5 L S k n (wr H a 6 v) Q) := W_putf (rfl : (pj lw).1 24 2 = some (.putfield 81, 3, 6))
theorem w24_5 {x : Nat} : W (pj lw) 24 5 (.val (.ref x) :: L) S k n H Q ↔ W (pj lw) 24 6 (.val (.ref x) :: L) (.ref x :: S) k n H Q := W_s (rfl : (pj lw).1 24 5 = some (.aload_n 0, 1, 0)) rfl rfl rfl
theorem w24_6 : W (pj lw) 24 6 L S k n H Q ↔ W (pj lw) 24 7 L (.int 1 :: S) k n H Q := W_s (rfl : (pj lw).1 24 6 = some (.iconst 1, 1, 0)) rfl rfl rfl
theorem w24_7 {a : Nat} {v : Value} : W (pj lw) 24 7 L (v :: .ref a :: S) k n H Q ↔ ((isOw H a = true ∧ okv (.int) v = true) ∧ W (pj lw) 24 10 L S k n (wr H a 7 v) Q) := W_putf (rfl : (pj lw).1 24 7 = some (.putfield 78, 3, 7))
theorem w24_10 {x : Nat} : W (pj lw) 24 10 (.val (.ref x) :: L) S k n H Q ↔ W (pj lw) 24 11 (.val (.ref x) :: L) (.ref x :: S) k n H Q := W_s (rfl : (pj lw).1 24 10 = some (.aload_n 0, 1, 0)) rfl rfl rfl
theorem w24_11 : W (pj lw) 24 11 L S k n H Q ↔ W (pj lw) 24 12 L (.int 0 :: S) k n H Q := W_s (rfl : (pj lw).1 24 11 = some (.iconst 0, 1, 0)) rfl rfl rfl
theorem w24_12 {a : Nat} {v : Value} : W (pj lw) 24 12 L (v :: .ref a :: S) k n H Q ↔ ((isOw H a = true ∧ okv (.int) v = true) ∧ W (pj lw) 24 15 L S k n (wr H a 8 v) Q) := W_putf (rfl : (pj lw).1 24 12 = some (.putfield 87, 3, 8))
theorem w24_15 : W (pj lw) 24 15 L S k n H Q ↔ W (pj lw) 24 16 L (.int 0 :: S) k n H Q := W_s (rfl : (pj lw).1 24 15 = some (.iconst 0, 1, 0)) rfl rfl rfl
theorem w24_16 {x : Int32} {l0 : Slot} : W (pj lw) 24 16 (l0 :: .unset :: L) (.int x :: S) k n H Q ↔ W (pj lw) 24 17 (l0 :: .val (.int x) :: L) S k n H Q := W_istn (rfl : (pj lw).1 24 16 = some (.istore_n 1, 1, 0)) rfl rfl
theorem w24_17 : W (pj lw) 24 17 L S k n H Q ↔ W (pj lw) 24 18 L (.int 0 :: S) k n H Q := W_s (rfl : (pj lw).1 24 17 = some (.iconst 0, 1, 0)) rfl rfl rfl
theorem w24_18 {x : Int32} {l0 l1 : Slot} : W (pj lw) 24 18 (l0 :: l1 :: .unset :: L) (.int x :: S) k n H Q ↔ W (pj lw) 24 19 (l0 :: l1 :: .val (.int x) :: L) S k n H Q := W_istn (rfl : (pj lw).1 24 18 = some (.istore_n 2, 1, 0)) rfl rfl
theorem w24_19 : W (pj lw) 24 19 L S k n H Q ↔ W (pj lw) 24 20 L (.int 1 :: S) k n H Q := W_s (rfl : (pj lw).1 24 19 = some (.iconst 1, 1, 0)) rfl rfl rfl
theorem w24_20 {x : Int32} {l0 l1 l2 : Slot} : W (pj lw) 24 20 (l0 :: l1 :: l2 :: .unset :: L) (.int x :: S) k n H Q ↔ W (pj lw) 24 21 (l0 :: l1 :: l2 :: .val (.int x) :: L) S k n H Q := W_istn (rfl : (pj lw).1 24 20 = some (.istore_n 3, 1, 0)) rfl rfl
theorem w24_21 : W (pj lw) 24 21 L S k n H Q ↔ W (pj lw) 24 22 L (.int 0 :: S) k n H Q := W_s (rfl : (pj lw).1 24 21 = some (.iconst 0, 1, 0)) rfl rfl rfl
theorem w24_22 {x : Int32} {l0 l1 l2 l3 : Slot} : W (pj lw) 24 22 (l0 :: l1 :: l2 :: l3 :: .unset :: L) (.int x :: S) k n H Q ↔ W (pj lw) 24 24 (l0 :: l1 :: l2 :: l3 :: .val (.int x) :: L) S k n H Q := W_ist (rfl : (pj lw).1 24 22 = some (.istore 4, 2, 0)) rfl rfl
theorem w24_24 : W (pj lw) 24 24 L S k n H Q ↔ W (pj lw) 24 25 L (.int 0 :: S) k n H Q := W_s (rfl : (pj lw).1 24 24 = some (.iconst 0, 1, 0)) rfl rfl rfl
theorem w24_25 {x : Int32} {l0 l1 l2 l3 l4 : Slot} : W (pj lw) 24 25 (l0 :: l1 :: l2 :: l3 :: l4 :: .unset :: L) (.int x :: S) k n H Q ↔ W (pj lw) 24 27 (l0 :: l1 :: l2 :: l3 :: l4 :: .val (.int x) :: L) S k n H Q := W_ist (rfl : (pj lw).1 24 25 = some (.istore 5, 2, 0)) rfl rfl
theorem w24_27 {x : Int32} {l0 l1 l2 l3 l4 : Slot} : W (pj lw) 24 27 (l0 :: l1 :: l2 :: l3 :: l4 :: .val (.int x) :: L) S k n H Q ↔ W (pj lw) 24 29 (l0 :: l1 :: l2 :: l3 :: l4 :: .val (.int x) :: L) (.int x :: S) k n H Q := W_s (rfl : (pj lw).1 24 27 = some (.iload 5, 2, 0)) rfl rfl rfl
theorem w24_29 : W (pj lw) 24 29 L S k n H Q ↔ W (pj lw) 24 31 L (.int 97 :: S) k n H Q := W_s (rfl : (pj lw).1 24 29 = some (.bipush 97, 2, 0)) rfl rfl rfl
theorem w24_31 {x y : Int32} : W (pj lw) 24 31 L (.int y :: .int x :: S) k n H Q ↔ (if x < y then W (pj lw) 24 34 L S k n H Q else W (pj lw) 24 318 L S k n H Q) := W_icmp_ge (rfl : (pj lw).1 24 31 = some (.if_icmp .ge 287, 3, 0)) rfl
theorem w24_34 {x : Int32} {l0 : Slot} : W (pj lw) 24 34 (l0 :: .val (.int x) :: L) S k n H Q ↔ W (pj lw) 24 35 (l0 :: .val (.int x) :: L) (.int x :: S) k n H Q := W_s (rfl : (pj lw).1 24 34 = some (.iload_n 1, 1, 0)) rfl rfl rfl
theorem w24_35 {x : Nat} : W (pj lw) 24 35 (.val (.ref x) :: L) S k n H Q ↔ W (pj lw) 24 36 (.val (.ref x) :: L) (.ref x :: S) k n H Q := W_s (rfl : (pj lw).1 24 35 = some (.aload_n 0, 1, 0)) rfl rfl rfl
theorem w24_36 {a : Nat} : W (pj lw) 24 36 L (.ref a :: S) k n H Q ↔ (isO H a = true ∧ W (pj lw) 24 39 L (fld H a 3 :: S) k n H Q) := W_getf (rfl : (pj lw).1 24 36 = some (.getfield 63, 3, 3))
theorem w24_39 {x y : Int32} : W (pj lw) 24 39 L (.int y :: .int x :: S) k n H Q ↔ (if x < y then W (pj lw) 24 42 L S k n H Q else W (pj lw) 24 318 L S k n H Q) := W_icmp_ge (rfl : (pj lw).1 24 39 = some (.if_icmp .ge 279, 3, 0)) rfl
theorem w24_42 {x : Nat} : W (pj lw) 24 42 (.val (.ref x) :: L) S k n H Q ↔ W (pj lw) 24 43 (.val (.ref x) :: L) (.ref x :: S) k n H Q := W_s (rfl : (pj lw).1 24 42 = some (.aload_n 0, 1, 0)) rfl rfl rfl
theorem w24_43 {a : Nat} : W (pj lw) 24 43 L (.ref a :: S) k n H Q ↔ (isO H a = true ∧ W (pj lw) 24 46 L (fld H a 2 :: S) k n H Q) := W_getf (rfl : (pj lw).1 24 43 = some (.getfield 7, 3, 2))
theorem w24_46 {x : Int32} {l0 : Slot} : W (pj lw) 24 46 (l0 :: .val (.int x) :: L) S k n H Q ↔ W (pj lw) 24 47 (l0 :: .val (.int x) :: L) (.int x :: S) k n H Q := W_s (rfl : (pj lw).1 24 46 = some (.iload_n 1, 1, 0)) rfl rfl rfl
theorem w24_47 {i : Int32} {a : Nat} : W (pj lw) 24 47 L (.int i :: .ref a :: S) k n H Q ↔ (inA H a .int i = true ∧ W (pj lw) 24 48 L (elt H a i :: S) k n H Q) := W_iaload (rfl : (pj lw).1 24 47 = some (.iaload, 1, 0))
theorem w24_48i {y : Int32} {x : Int32} {l0 l1 l2 l3 l4 l5 : Slot} : W (pj lw) 24 48 (l0 :: l1 :: l2 :: l3 :: l4 :: l5 :: .val (.int y) :: L) (.int x :: S) k n H Q ↔ W (pj lw) 24 50 (l0 :: l1 :: l2 :: l3 :: l4 :: l5 :: .val (.int x) :: L) S k n H Q := W_ist (rfl : (pj lw).1 24 48 = some (.istore 6, 2, 0)) rfl rfl
theorem w24_48 {x : Int32} {l0 l1 l2 l3 l4 l5 : Slot} : W (pj lw) 24 48 (l0 :: l1 :: l2 :: l3 :: l4 :: l5 :: .unset :: L) (.int x :: S) k n H Q ↔ W (pj lw) 24 50 (l0 :: l1 :: l2 :: l3 :: l4 :: l5 :: .val (.int x) :: L) S k n H Q := W_ist (rfl : (pj lw).1 24 48 = some (.istore 6, 2, 0)) rfl rfl
theorem w24_50 {x : Nat} : W (pj lw) 24 50 (.val (.ref x) :: L) S k n H Q ↔ W (pj lw) 24 51 (.val (.ref x) :: L) (.ref x :: S) k n H Q := W_s (rfl : (pj lw).1 24 50 = some (.aload_n 0, 1, 0)) rfl rfl rfl
theorem w24_51 {x : Int32} {l0 l1 l2 l3 l4 l5 : Slot} : W (pj lw) 24 51 (l0 :: l1 :: l2 :: l3 :: l4 :: l5 :: .val (.int x) :: L) S k n H Q ↔ W (pj lw) 24 53 (l0 :: l1 :: l2 :: l3 :: l4 :: l5 :: .val (.int x) :: L) (.int x :: S) k n H Q := W_s (rfl : (pj lw).1 24 51 = some (.iload 6, 2, 0)) rfl rfl rfl
theorem w24_53 {a : Nat} {x0 : Int32} : W (pj lw) 24 53 L (.int x0 :: .ref a :: S) k n H Q ↔ ((isO H a = true ∧ cs S + (2 + 11) + 0 ≤ 41) ∧ Cl (pj lw) 20 [.ref a, .int x0] H (fun v H => W (pj lw) 24 56 L (v.toList ++ S) k n H Q)) := W_inst (as := [.int x0]) (rfl : (pj lw).1 24 53 = some (.invokevirtual 122, 3, 20)) rfl rfl rfl (Nat.le_of_ble_eq_true rfl) (Nat.le_of_ble_eq_true rfl) ⟨rfl, rfl⟩
theorem w24_56 {x : Int32} : W (pj lw) 24 56 L (.int x :: S) k n H Q ↔ (if x = 0 then W (pj lw) 24 76 L S k n H Q else W (pj lw) 24 59 L S k n H Q) := W_if_eq (rfl : (pj lw).1 24 56 = some (.ifCond .eq 20, 3, 0)) rfl
theorem w24_59 {x : Nat} : W (pj lw) 24 59 (.val (.ref x) :: L) S k n H Q ↔ W (pj lw) 24 60 (.val (.ref x) :: L) (.ref x :: S) k n H Q := W_s (rfl : (pj lw).1 24 59 = some (.aload_n 0, 1, 0)) rfl rfl rfl
theorem w24_60 {x : Int32} {l0 : Slot} : W (pj lw) 24 60 (l0 :: .val (.int x) :: L) S k n H Q ↔ W (pj lw) 24 61 (l0 :: .val (.int x) :: L) (.int x :: S) k n H Q := W_s (rfl : (pj lw).1 24 60 = some (.iload_n 1, 1, 0)) rfl rfl rfl
theorem w24_61 {a : Nat} {x0 : Int32} : W (pj lw) 24 61 L (.int x0 :: .ref a :: S) k n H Q ↔ ((isO H a = true ∧ cs S + (4 + 11) + 26 ≤ 41) ∧ Cl (pj lw) 25 [.ref a, .int x0] H (fun v H => W (pj lw) 24 64 L (v.toList ++ S) k n H Q)) := W_inst (as := [.int x0]) (rfl : (pj lw).1 24 61 = some (.invokevirtual 131, 3, 25)) rfl rfl rfl (Nat.le_of_ble_eq_true rfl) (Nat.le_of_ble_eq_true rfl) ⟨rfl, rfl⟩
theorem w24_64i {y : Int32} {x : Int32} {l0 : Slot} : W (pj lw) 24 64 (l0 :: .val (.int y) :: L) (.int x :: S) k n H Q ↔ W (pj lw) 24 65 (l0 :: .val (.int x) :: L) S k n H Q := W_istn (rfl : (pj lw).1 24 64 = some (.istore_n 1, 1, 0)) rfl rfl
theorem w24_65 {x : Int32} {l0 : Slot} : W (pj lw) 24 65 (l0 :: .val (.int x) :: L) S k n H Q ↔ W (pj lw) 24 66 (l0 :: .val (.int x) :: L) (.int x :: S) k n H Q := W_s (rfl : (pj lw).1 24 65 = some (.iload_n 1, 1, 0)) rfl rfl rfl
theorem w24_66 {x : Int32} : W (pj lw) 24 66 L (.int x :: S) k n H Q ↔ (if x < 0 then W (pj lw) 24 69 L S k n H Q else W (pj lw) 24 71 L S k n H Q) := W_if_ge (rfl : (pj lw).1 24 66 = some (.ifCond .ge 5, 3, 0)) rfl
theorem w24_69 : W (pj lw) 24 69 L S k n H Q ↔ W (pj lw) 24 70 L (.int 0 :: S) k n H Q := W_s (rfl : (pj lw).1 24 69 = some (.iconst 0, 1, 0)) rfl rfl rfl
theorem w24_70 {x : Int32} : W (pj lw) 24 70 L (.int x :: S) k n H Q ↔ ((x = 0 ∨ x = 1) ∧ Q (some (.int x)) H) := W_rz (rfl : (pj lw).1 24 70 = some (.ireturn, 1, 0)) rfl
theorem w24_71 : W (pj lw) 24 71 L S k n H Q ↔ W (pj lw) 24 72 L (.int 0 :: S) k n H Q := W_s (rfl : (pj lw).1 24 71 = some (.iconst 0, 1, 0)) rfl rfl rfl
theorem w24_72i {y : Int32} {x : Int32} {l0 l1 l2 : Slot} : W (pj lw) 24 72 (l0 :: l1 :: l2 :: .val (.int y) :: L) (.int x :: S) k n H Q ↔ W (pj lw) 24 73 (l0 :: l1 :: l2 :: .val (.int x) :: L) S k n H Q := W_istn (rfl : (pj lw).1 24 72 = some (.istore_n 3, 1, 0)) rfl rfl
theorem w24_73 : W (pj lw) 24 73 L S k n H Q ↔ W (pj lw) 24 312 L S k n H Q := W_goto (rfl : (pj lw).1 24 73 = some (.goto 239, 3, 0)) rfl
theorem w24_76 {x : Int32} {l0 l1 l2 l3 l4 l5 : Slot} : W (pj lw) 24 76 (l0 :: l1 :: l2 :: l3 :: l4 :: l5 :: .val (.int x) :: L) S k n H Q ↔ W (pj lw) 24 78 (l0 :: l1 :: l2 :: l3 :: l4 :: l5 :: .val (.int x) :: L) (.int x :: S) k n H Q := W_s (rfl : (pj lw).1 24 76 = some (.iload 6, 2, 0)) rfl rfl rfl
theorem w24_78 : W (pj lw) 24 78 L S k n H Q ↔ W (pj lw) 24 80 L (.int 40 :: S) k n H Q := W_s (rfl : (pj lw).1 24 78 = some (.bipush 40, 2, 0)) rfl rfl rfl
theorem w24_80 {x y : Int32} : W (pj lw) 24 80 L (.int y :: .int x :: S) k n H Q ↔ (if x = y then W (pj lw) 24 90 L S k n H Q else W (pj lw) 24 83 L S k n H Q) := W_icmp_eq (rfl : (pj lw).1 24 80 = some (.if_icmp .eq 10, 3, 0)) rfl
theorem w24_83 {x : Int32} {l0 l1 l2 l3 l4 l5 : Slot} : W (pj lw) 24 83 (l0 :: l1 :: l2 :: l3 :: l4 :: l5 :: .val (.int x) :: L) S k n H Q ↔ W (pj lw) 24 85 (l0 :: l1 :: l2 :: l3 :: l4 :: l5 :: .val (.int x) :: L) (.int x :: S) k n H Q := W_s (rfl : (pj lw).1 24 83 = some (.iload 6, 2, 0)) rfl rfl rfl
theorem w24_85 : W (pj lw) 24 85 L S k n H Q ↔ W (pj lw) 24 87 L (.int 91 :: S) k n H Q := W_s (rfl : (pj lw).1 24 85 = some (.bipush 91, 2, 0)) rfl rfl rfl
theorem w24_87 {x y : Int32} : W (pj lw) 24 87 L (.int y :: .int x :: S) k n H Q ↔ (if x = y then W (pj lw) 24 90 L S k n H Q else W (pj lw) 24 116 L S k n H Q) := W_icmp_ne (rfl : (pj lw).1 24 87 = some (.if_icmp .ne 29, 3, 0)) rfl
theorem w24_90 {x : Int32} {l0 l1 : Slot} : W (pj lw) 24 90 (l0 :: l1 :: .val (.int x) :: L) S k n H Q ↔ W (pj lw) 24 91 (l0 :: l1 :: .val (.int x) :: L) (.int x :: S) k n H Q := W_s (rfl : (pj lw).1 24 90 = some (.iload_n 2, 1, 0)) rfl rfl rfl
theorem w24_91 : W (pj lw) 24 91 L S k n H Q ↔ W (pj lw) 24 92 L (.int 4 :: S) k n H Q := W_s (rfl : (pj lw).1 24 91 = some (.iconst 4, 1, 0)) rfl rfl rfl
theorem w24_92 {x y : Int32} : W (pj lw) 24 92 L (.int y :: .int x :: S) k n H Q ↔ (if x < y then W (pj lw) 24 97 L S k n H Q else W (pj lw) 24 95 L S k n H Q) := W_icmp_lt (rfl : (pj lw).1 24 92 = some (.if_icmp .lt 5, 3, 0)) rfl
theorem w24_95 : W (pj lw) 24 95 L S k n H Q ↔ W (pj lw) 24 96 L (.int 0 :: S) k n H Q := W_s (rfl : (pj lw).1 24 95 = some (.iconst 0, 1, 0)) rfl rfl rfl
theorem w24_96 {x : Int32} : W (pj lw) 24 96 L (.int x :: S) k n H Q ↔ ((x = 0 ∨ x = 1) ∧ Q (some (.int x)) H) := W_rz (rfl : (pj lw).1 24 96 = some (.ireturn, 1, 0)) rfl
theorem w24_97 {x : Nat} : W (pj lw) 24 97 (.val (.ref x) :: L) S k n H Q ↔ W (pj lw) 24 98 (.val (.ref x) :: L) (.ref x :: S) k n H Q := W_s (rfl : (pj lw).1 24 97 = some (.aload_n 0, 1, 0)) rfl rfl rfl
theorem w24_98 {a : Nat} : W (pj lw) 24 98 L (.ref a :: S) k n H Q ↔ (isO H a = true ∧ W (pj lw) 24 101 L (fld H a 4 :: S) k n H Q) := W_getf (rfl : (pj lw).1 24 98 = some (.getfield 13, 3, 4))
theorem w24_101 {x : Int32} {l0 l1 : Slot} : W (pj lw) 24 101 (l0 :: l1 :: .val (.int x) :: L) S k n H Q ↔ W (pj lw) 24 102 (l0 :: l1 :: .val (.int x) :: L) (.int x :: S) k n H Q := W_s (rfl : (pj lw).1 24 101 = some (.iload_n 2, 1, 0)) rfl rfl rfl
theorem w24_102 {x : Int32} {l0 l1 l2 l3 l4 l5 : Slot} : W (pj lw) 24 102 (l0 :: l1 :: l2 :: l3 :: l4 :: l5 :: .val (.int x) :: L) S k n H Q ↔ W (pj lw) 24 104 (l0 :: l1 :: l2 :: l3 :: l4 :: l5 :: .val (.int x) :: L) (.int x :: S) k n H Q := W_s (rfl : (pj lw).1 24 102 = some (.iload 6, 2, 0)) rfl rfl rfl
theorem w24_104 {x i : Int32} {a : Nat} : W (pj lw) 24 104 L (.int x :: .int i :: .ref a :: S) k n H Q ↔ (inAw H a .int i = true ∧ W (pj lw) 24 105 L S k n (wr H a i.toNatClampNeg (.int x)) Q) := W_iastore (rfl : (pj lw).1 24 104 = some (.iastore, 1, 0))
theorem w24_105 {x : Int32} {l0 l1 : Slot} : W (pj lw) 24 105 (l0 :: l1 :: .val (.int x) :: L) S k n H Q ↔ W (pj lw) 24 108 (l0 :: l1 :: .val (.int (x + 1)) :: L) S k n H Q := W_s (rfl : (pj lw).1 24 105 = some (.iinc 2 1, 3, 0)) rfl rfl rfl
theorem w24_108 {x : Int32} {l0 : Slot} : W (pj lw) 24 108 (l0 :: .val (.int x) :: L) S k n H Q ↔ W (pj lw) 24 111 (l0 :: .val (.int (x + 1)) :: L) S k n H Q := W_s (rfl : (pj lw).1 24 108 = some (.iinc 1 1, 3, 0)) rfl rfl rfl
theorem w24_111 : W (pj lw) 24 111 L S k n H Q ↔ W (pj lw) 24 112 L (.int 1 :: S) k n H Q := W_s (rfl : (pj lw).1 24 111 = some (.iconst 1, 1, 0)) rfl rfl rfl
theorem w24_112i {y : Int32} {x : Int32} {l0 l1 l2 : Slot} : W (pj lw) 24 112 (l0 :: l1 :: l2 :: .val (.int y) :: L) (.int x :: S) k n H Q ↔ W (pj lw) 24 113 (l0 :: l1 :: l2 :: .val (.int x) :: L) S k n H Q := W_istn (rfl : (pj lw).1 24 112 = some (.istore_n 3, 1, 0)) rfl rfl
theorem w24_113 : W (pj lw) 24 113 L S k n H Q ↔ W (pj lw) 24 312 L S k n H Q := W_goto (rfl : (pj lw).1 24 113 = some (.goto 199, 3, 0)) rfl
theorem w24_116 {x : Int32} {l0 l1 l2 : Slot} : W (pj lw) 24 116 (l0 :: l1 :: l2 :: .val (.int x) :: L) S k n H Q ↔ W (pj lw) 24 117 (l0 :: l1 :: l2 :: .val (.int x) :: L) (.int x :: S) k n H Q := W_s (rfl : (pj lw).1 24 116 = some (.iload_n 3, 1, 0)) rfl rfl rfl
theorem w24_117 {x : Int32} : W (pj lw) 24 117 L (.int x :: S) k n H Q ↔ (if x = 0 then W (pj lw) 24 122 L S k n H Q else W (pj lw) 24 120 L S k n H Q) := W_if_eq (rfl : (pj lw).1 24 117 = some (.ifCond .eq 5, 3, 0)) rfl
theorem w24_120 : W (pj lw) 24 120 L S k n H Q ↔ W (pj lw) 24 121 L (.int 0 :: S) k n H Q := W_s (rfl : (pj lw).1 24 120 = some (.iconst 0, 1, 0)) rfl rfl rfl
theorem w24_121 {x : Int32} : W (pj lw) 24 121 L (.int x :: S) k n H Q ↔ ((x = 0 ∨ x = 1) ∧ Q (some (.int x)) H) := W_rz (rfl : (pj lw).1 24 121 = some (.ireturn, 1, 0)) rfl
theorem w24_122 {x : Int32} {l0 l1 l2 l3 l4 l5 : Slot} : W (pj lw) 24 122 (l0 :: l1 :: l2 :: l3 :: l4 :: l5 :: .val (.int x) :: L) S k n H Q ↔ W (pj lw) 24 124 (l0 :: l1 :: l2 :: l3 :: l4 :: l5 :: .val (.int x) :: L) (.int x :: S) k n H Q := W_s (rfl : (pj lw).1 24 122 = some (.iload 6, 2, 0)) rfl rfl rfl
theorem w24_124 : W (pj lw) 24 124 L S k n H Q ↔ W (pj lw) 24 126 L (.int 41 :: S) k n H Q := W_s (rfl : (pj lw).1 24 124 = some (.bipush 41, 2, 0)) rfl rfl rfl
theorem w24_126 {x y : Int32} : W (pj lw) 24 126 L (.int y :: .int x :: S) k n H Q ↔ (if x = y then W (pj lw) 24 136 L S k n H Q else W (pj lw) 24 129 L S k n H Q) := W_icmp_eq (rfl : (pj lw).1 24 126 = some (.if_icmp .eq 10, 3, 0)) rfl
theorem w24_129 {x : Int32} {l0 l1 l2 l3 l4 l5 : Slot} : W (pj lw) 24 129 (l0 :: l1 :: l2 :: l3 :: l4 :: l5 :: .val (.int x) :: L) S k n H Q ↔ W (pj lw) 24 131 (l0 :: l1 :: l2 :: l3 :: l4 :: l5 :: .val (.int x) :: L) (.int x :: S) k n H Q := W_s (rfl : (pj lw).1 24 129 = some (.iload 6, 2, 0)) rfl rfl rfl
theorem w24_131 : W (pj lw) 24 131 L S k n H Q ↔ W (pj lw) 24 133 L (.int 93 :: S) k n H Q := W_s (rfl : (pj lw).1 24 131 = some (.bipush 93, 2, 0)) rfl rfl rfl
theorem w24_133 {x y : Int32} : W (pj lw) 24 133 L (.int y :: .int x :: S) k n H Q ↔ (if x = y then W (pj lw) 24 136 L S k n H Q else W (pj lw) 24 191 L S k n H Q) := W_icmp_ne (rfl : (pj lw).1 24 133 = some (.if_icmp .ne 58, 3, 0)) rfl
theorem w24_136 {x : Int32} {l0 l1 l2 l3 l4 l5 : Slot} : W (pj lw) 24 136 (l0 :: l1 :: l2 :: l3 :: l4 :: l5 :: .val (.int x) :: L) S k n H Q ↔ W (pj lw) 24 138 (l0 :: l1 :: l2 :: l3 :: l4 :: l5 :: .val (.int x) :: L) (.int x :: S) k n H Q := W_s (rfl : (pj lw).1 24 136 = some (.iload 6, 2, 0)) rfl rfl rfl
theorem w24_138 : W (pj lw) 24 138 L S k n H Q ↔ W (pj lw) 24 140 L (.int 41 :: S) k n H Q := W_s (rfl : (pj lw).1 24 138 = some (.bipush 41, 2, 0)) rfl rfl rfl
theorem w24_140 {x y : Int32} : W (pj lw) 24 140 L (.int y :: .int x :: S) k n H Q ↔ (if x = y then W (pj lw) 24 143 L S k n H Q else W (pj lw) 24 148 L S k n H Q) := W_icmp_ne (rfl : (pj lw).1 24 140 = some (.if_icmp .ne 8, 3, 0)) rfl
theorem w24_143 : W (pj lw) 24 143 L S k n H Q ↔ W (pj lw) 24 145 L (.int 40 :: S) k n H Q := W_s (rfl : (pj lw).1 24 143 = some (.bipush 40, 2, 0)) rfl rfl rfl
theorem w24_145 : W (pj lw) 24 145 L S k n H Q ↔ W (pj lw) 24 150 L S k n H Q := W_goto (rfl : (pj lw).1 24 145 = some (.goto 5, 3, 0)) rfl
theorem w24_148 : W (pj lw) 24 148 L S k n H Q ↔ W (pj lw) 24 150 L (.int 91 :: S) k n H Q := W_s (rfl : (pj lw).1 24 148 = some (.bipush 91, 2, 0)) rfl rfl rfl
theorem w24_150i {y : Int32} {x : Int32} {l0 l1 l2 l3 l4 l5 l6 : Slot} : W (pj lw) 24 150 (l0 :: l1 :: l2 :: l3 :: l4 :: l5 :: l6 :: .val (.int y) :: L) (.int x :: S) k n H Q ↔ W (pj lw) 24 152 (l0 :: l1 :: l2 :: l3 :: l4 :: l5 :: l6 :: .val (.int x) :: L) S k n H Q := W_ist (rfl : (pj lw).1 24 150 = some (.istore 7, 2, 0)) rfl rfl
theorem w24_150 {x : Int32} {l0 l1 l2 l3 l4 l5 l6 : Slot} : W (pj lw) 24 150 (l0 :: l1 :: l2 :: l3 :: l4 :: l5 :: l6 :: .unset :: L) (.int x :: S) k n H Q ↔ W (pj lw) 24 152 (l0 :: l1 :: l2 :: l3 :: l4 :: l5 :: l6 :: .val (.int x) :: L) S k n H Q := W_ist (rfl : (pj lw).1 24 150 = some (.istore 7, 2, 0)) rfl rfl
theorem w24_152 {x : Int32} {l0 l1 : Slot} : W (pj lw) 24 152 (l0 :: l1 :: .val (.int x) :: L) S k n H Q ↔ W (pj lw) 24 153 (l0 :: l1 :: .val (.int x) :: L) (.int x :: S) k n H Q := W_s (rfl : (pj lw).1 24 152 = some (.iload_n 2, 1, 0)) rfl rfl rfl
theorem w24_153 {x : Int32} : W (pj lw) 24 153 L (.int x :: S) k n H Q ↔ (if 0 < x then W (pj lw) 24 156 L S k n H Q else W (pj lw) 24 169 L S k n H Q) := W_if_le (rfl : (pj lw).1 24 153 = some (.ifCond .le 16, 3, 0)) rfl
theorem w24_156 {x : Nat} : W (pj lw) 24 156 (.val (.ref x) :: L) S k n H Q ↔ W (pj lw) 24 157 (.val (.ref x) :: L) (.ref x :: S) k n H Q := W_s (rfl : (pj lw).1 24 156 = some (.aload_n 0, 1, 0)) rfl rfl rfl
theorem w24_157 {a : Nat} : W (pj lw) 24 157 L (.ref a :: S) k n H Q ↔ (isO H a = true ∧ W (pj lw) 24 160 L (fld H a 4 :: S) k n H Q) := W_getf (rfl : (pj lw).1 24 157 = some (.getfield 13, 3, 4))
theorem w24_160 {x : Int32} {l0 l1 : Slot} : W (pj lw) 24 160 (l0 :: l1 :: .val (.int x) :: L) S k n H Q ↔ W (pj lw) 24 161 (l0 :: l1 :: .val (.int x) :: L) (.int x :: S) k n H Q := W_s (rfl : (pj lw).1 24 160 = some (.iload_n 2, 1, 0)) rfl rfl rfl
theorem w24_161 : W (pj lw) 24 161 L S k n H Q ↔ W (pj lw) 24 162 L (.int 1 :: S) k n H Q := W_s (rfl : (pj lw).1 24 161 = some (.iconst 1, 1, 0)) rfl rfl rfl
theorem w24_162 {x y : Int32} : W (pj lw) 24 162 L (.int y :: .int x :: S) k n H Q ↔ W (pj lw) 24 163 L (.int (x - y) :: S) k n H Q := W_s (rfl : (pj lw).1 24 162 = some (.isub, 1, 0)) rfl rfl rfl
theorem w24_163 {i : Int32} {a : Nat} : W (pj lw) 24 163 L (.int i :: .ref a :: S) k n H Q ↔ (inA H a .int i = true ∧ W (pj lw) 24 164 L (elt H a i :: S) k n H Q) := W_iaload (rfl : (pj lw).1 24 163 = some (.iaload, 1, 0))
theorem w24_164 {x : Int32} {l0 l1 l2 l3 l4 l5 l6 : Slot} : W (pj lw) 24 164 (l0 :: l1 :: l2 :: l3 :: l4 :: l5 :: l6 :: .val (.int x) :: L) S k n H Q ↔ W (pj lw) 24 166 (l0 :: l1 :: l2 :: l3 :: l4 :: l5 :: l6 :: .val (.int x) :: L) (.int x :: S) k n H Q := W_s (rfl : (pj lw).1 24 164 = some (.iload 7, 2, 0)) rfl rfl rfl
theorem w24_166 {x y : Int32} : W (pj lw) 24 166 L (.int y :: .int x :: S) k n H Q ↔ (if x = y then W (pj lw) 24 171 L S k n H Q else W (pj lw) 24 169 L S k n H Q) := W_icmp_eq (rfl : (pj lw).1 24 166 = some (.if_icmp .eq 5, 3, 0)) rfl
theorem w24_169 : W (pj lw) 24 169 L S k n H Q ↔ W (pj lw) 24 170 L (.int 0 :: S) k n H Q := W_s (rfl : (pj lw).1 24 169 = some (.iconst 0, 1, 0)) rfl rfl rfl
theorem w24_170 {x : Int32} : W (pj lw) 24 170 L (.int x :: S) k n H Q ↔ ((x = 0 ∨ x = 1) ∧ Q (some (.int x)) H) := W_rz (rfl : (pj lw).1 24 170 = some (.ireturn, 1, 0)) rfl
theorem w24_171 {x : Int32} {l0 l1 : Slot} : W (pj lw) 24 171 (l0 :: l1 :: .val (.int x) :: L) S k n H Q ↔ W (pj lw) 24 174 (l0 :: l1 :: .val (.int (x + (-1))) :: L) S k n H Q := W_s (rfl : (pj lw).1 24 171 = some (.iinc 2 (-1), 3, 0)) rfl rfl rfl
theorem w24_174 {x : Nat} : W (pj lw) 24 174 (.val (.ref x) :: L) S k n H Q ↔ W (pj lw) 24 175 (.val (.ref x) :: L) (.ref x :: S) k n H Q := W_s (rfl : (pj lw).1 24 174 = some (.aload_n 0, 1, 0)) rfl rfl rfl
theorem w24_175 {x : Int32} {l0 : Slot} : W (pj lw) 24 175 (l0 :: .val (.int x) :: L) S k n H Q ↔ W (pj lw) 24 176 (l0 :: .val (.int x) :: L) (.int x :: S) k n H Q := W_s (rfl : (pj lw).1 24 175 = some (.iload_n 1, 1, 0)) rfl rfl rfl
theorem w24_176 : W (pj lw) 24 176 L S k n H Q ↔ W (pj lw) 24 177 L (.int 1 :: S) k n H Q := W_s (rfl : (pj lw).1 24 176 = some (.iconst 1, 1, 0)) rfl rfl rfl
theorem w24_177 {x y : Int32} : W (pj lw) 24 177 L (.int y :: .int x :: S) k n H Q ↔ W (pj lw) 24 178 L (.int (x + y) :: S) k n H Q := W_s (rfl : (pj lw).1 24 177 = some (.iadd, 1, 0)) rfl rfl rfl
theorem w24_178 {a : Nat} {x0 : Int32} : W (pj lw) 24 178 L (.int x0 :: .ref a :: S) k n H Q ↔ ((isO H a = true ∧ cs S + (2 + 11) + 13 ≤ 41) ∧ Cl (pj lw) 27 [.ref a, .int x0] H (fun v H => W (pj lw) 24 181 L (v.toList ++ S) k n H Q)) := W_inst (as := [.int x0]) (rfl : (pj lw).1 24 178 = some (.invokevirtual 135, 3, 27)) rfl rfl rfl (Nat.le_of_ble_eq_true rfl) (Nat.le_of_ble_eq_true rfl) ⟨rfl, rfl⟩
theorem w24_181i {y : Int32} {x : Int32} {l0 : Slot} : W (pj lw) 24 181 (l0 :: .val (.int y) :: L) (.int x :: S) k n H Q ↔ W (pj lw) 24 182 (l0 :: .val (.int x) :: L) S k n H Q := W_istn (rfl : (pj lw).1 24 181 = some (.istore_n 1, 1, 0)) rfl rfl
theorem w24_182 {x : Int32} {l0 : Slot} : W (pj lw) 24 182 (l0 :: .val (.int x) :: L) S k n H Q ↔ W (pj lw) 24 183 (l0 :: .val (.int x) :: L) (.int x :: S) k n H Q := W_s (rfl : (pj lw).1 24 182 = some (.iload_n 1, 1, 0)) rfl rfl rfl
theorem w24_183 {x : Int32} : W (pj lw) 24 183 L (.int x :: S) k n H Q ↔ (if x < 0 then W (pj lw) 24 186 L S k n H Q else W (pj lw) 24 188 L S k n H Q) := W_if_ge (rfl : (pj lw).1 24 183 = some (.ifCond .ge 5, 3, 0)) rfl
theorem w24_186 : W (pj lw) 24 186 L S k n H Q ↔ W (pj lw) 24 187 L (.int 0 :: S) k n H Q := W_s (rfl : (pj lw).1 24 186 = some (.iconst 0, 1, 0)) rfl rfl rfl
theorem w24_187 {x : Int32} : W (pj lw) 24 187 L (.int x :: S) k n H Q ↔ ((x = 0 ∨ x = 1) ∧ Q (some (.int x)) H) := W_rz (rfl : (pj lw).1 24 187 = some (.ireturn, 1, 0)) rfl
theorem w24_188 : W (pj lw) 24 188 L S k n H Q ↔ W (pj lw) 24 312 L S k n H Q := W_goto (rfl : (pj lw).1 24 188 = some (.goto 124, 3, 0)) rfl
theorem w24_191 {x : Int32} {l0 l1 : Slot} : W (pj lw) 24 191 (l0 :: l1 :: .val (.int x) :: L) S k n H Q ↔ W (pj lw) 24 192 (l0 :: l1 :: .val (.int x) :: L) (.int x :: S) k n H Q := W_s (rfl : (pj lw).1 24 191 = some (.iload_n 2, 1, 0)) rfl rfl rfl
theorem w24_192 {x : Int32} : W (pj lw) 24 192 L (.int x :: S) k n H Q ↔ (if 0 < x then W (pj lw) 24 195 L S k n H Q else W (pj lw) 24 197 L S k n H Q) := W_if_le (rfl : (pj lw).1 24 192 = some (.ifCond .le 5, 3, 0)) rfl
theorem w24_195 : W (pj lw) 24 195 L S k n H Q ↔ W (pj lw) 24 196 L (.int 0 :: S) k n H Q := W_s (rfl : (pj lw).1 24 195 = some (.iconst 0, 1, 0)) rfl rfl rfl
theorem w24_196 {x : Int32} : W (pj lw) 24 196 L (.int x :: S) k n H Q ↔ ((x = 0 ∨ x = 1) ∧ Q (some (.int x)) H) := W_rz (rfl : (pj lw).1 24 196 = some (.ireturn, 1, 0)) rfl
theorem w24_197 {x : Int32} {l0 l1 l2 l3 l4 l5 : Slot} : W (pj lw) 24 197 (l0 :: l1 :: l2 :: l3 :: l4 :: l5 :: .val (.int x) :: L) S k n H Q ↔ W (pj lw) 24 199 (l0 :: l1 :: l2 :: l3 :: l4 :: l5 :: .val (.int x) :: L) (.int x :: S) k n H Q := W_s (rfl : (pj lw).1 24 197 = some (.iload 6, 2, 0)) rfl rfl rfl
theorem w24_199 : W (pj lw) 24 199 L S k n H Q ↔ W (pj lw) 24 201 L (.int 46 :: S) k n H Q := W_s (rfl : (pj lw).1 24 199 = some (.bipush 46, 2, 0)) rfl rfl rfl
theorem w24_201 {x y : Int32} : W (pj lw) 24 201 L (.int y :: .int x :: S) k n H Q ↔ (if x = y then W (pj lw) 24 204 L S k n H Q else W (pj lw) 24 223 L S k n H Q) := W_icmp_ne (rfl : (pj lw).1 24 201 = some (.if_icmp .ne 22, 3, 0)) rfl
theorem w24_204 {x : Nat} : W (pj lw) 24 204 (.val (.ref x) :: L) S k n H Q ↔ W (pj lw) 24 205 (.val (.ref x) :: L) (.ref x :: S) k n H Q := W_s (rfl : (pj lw).1 24 204 = some (.aload_n 0, 1, 0)) rfl rfl rfl
theorem w24_205 {x : Int32} {l0 : Slot} : W (pj lw) 24 205 (l0 :: .val (.int x) :: L) S k n H Q ↔ W (pj lw) 24 206 (l0 :: .val (.int x) :: L) (.int x :: S) k n H Q := W_s (rfl : (pj lw).1 24 205 = some (.iload_n 1, 1, 0)) rfl rfl rfl
theorem w24_206 : W (pj lw) 24 206 L S k n H Q ↔ W (pj lw) 24 207 L (.int 1 :: S) k n H Q := W_s (rfl : (pj lw).1 24 206 = some (.iconst 1, 1, 0)) rfl rfl rfl
theorem w24_207 {x y : Int32} : W (pj lw) 24 207 L (.int y :: .int x :: S) k n H Q ↔ W (pj lw) 24 208 L (.int (x + y) :: S) k n H Q := W_s (rfl : (pj lw).1 24 207 = some (.iadd, 1, 0)) rfl rfl rfl
theorem w24_208 {a : Nat} {x0 : Int32} : W (pj lw) 24 208 L (.int x0 :: .ref a :: S) k n H Q ↔ ((isO H a = true ∧ cs S + (2 + 11) + 13 ≤ 41) ∧ Cl (pj lw) 27 [.ref a, .int x0] H (fun v H => W (pj lw) 24 211 L (v.toList ++ S) k n H Q)) := W_inst (as := [.int x0]) (rfl : (pj lw).1 24 208 = some (.invokevirtual 135, 3, 27)) rfl rfl rfl (Nat.le_of_ble_eq_true rfl) (Nat.le_of_ble_eq_true rfl) ⟨rfl, rfl⟩
theorem w24_211i {y : Int32} {x : Int32} {l0 : Slot} : W (pj lw) 24 211 (l0 :: .val (.int y) :: L) (.int x :: S) k n H Q ↔ W (pj lw) 24 212 (l0 :: .val (.int x) :: L) S k n H Q := W_istn (rfl : (pj lw).1 24 211 = some (.istore_n 1, 1, 0)) rfl rfl
theorem w24_212 {x : Int32} {l0 : Slot} : W (pj lw) 24 212 (l0 :: .val (.int x) :: L) S k n H Q ↔ W (pj lw) 24 213 (l0 :: .val (.int x) :: L) (.int x :: S) k n H Q := W_s (rfl : (pj lw).1 24 212 = some (.iload_n 1, 1, 0)) rfl rfl rfl
theorem w24_213 {x : Int32} : W (pj lw) 24 213 L (.int x :: S) k n H Q ↔ (if x < 0 then W (pj lw) 24 216 L S k n H Q else W (pj lw) 24 218 L S k n H Q) := W_if_ge (rfl : (pj lw).1 24 213 = some (.ifCond .ge 5, 3, 0)) rfl
theorem w24_216 : W (pj lw) 24 216 L S k n H Q ↔ W (pj lw) 24 217 L (.int 0 :: S) k n H Q := W_s (rfl : (pj lw).1 24 216 = some (.iconst 0, 1, 0)) rfl rfl rfl
theorem w24_217 {x : Int32} : W (pj lw) 24 217 L (.int x :: S) k n H Q ↔ ((x = 0 ∨ x = 1) ∧ Q (some (.int x)) H) := W_rz (rfl : (pj lw).1 24 217 = some (.ireturn, 1, 0)) rfl
theorem w24_218 : W (pj lw) 24 218 L S k n H Q ↔ W (pj lw) 24 219 L (.int 1 :: S) k n H Q := W_s (rfl : (pj lw).1 24 218 = some (.iconst 1, 1, 0)) rfl rfl rfl
theorem w24_219i {y : Int32} {x : Int32} {l0 l1 l2 : Slot} : W (pj lw) 24 219 (l0 :: l1 :: l2 :: .val (.int y) :: L) (.int x :: S) k n H Q ↔ W (pj lw) 24 220 (l0 :: l1 :: l2 :: .val (.int x) :: L) S k n H Q := W_istn (rfl : (pj lw).1 24 219 = some (.istore_n 3, 1, 0)) rfl rfl
theorem w24_220 : W (pj lw) 24 220 L S k n H Q ↔ W (pj lw) 24 312 L S k n H Q := W_goto (rfl : (pj lw).1 24 220 = some (.goto 92, 3, 0)) rfl
theorem w24_223 {x : Int32} {l0 l1 l2 l3 l4 l5 : Slot} : W (pj lw) 24 223 (l0 :: l1 :: l2 :: l3 :: l4 :: l5 :: .val (.int x) :: L) S k n H Q ↔ W (pj lw) 24 225 (l0 :: l1 :: l2 :: l3 :: l4 :: l5 :: .val (.int x) :: L) (.int x :: S) k n H Q := W_s (rfl : (pj lw).1 24 223 = some (.iload 6, 2, 0)) rfl rfl rfl
theorem w24_225 : W (pj lw) 24 225 L S k n H Q ↔ W (pj lw) 24 227 L (.int 94 :: S) k n H Q := W_s (rfl : (pj lw).1 24 225 = some (.bipush 94, 2, 0)) rfl rfl rfl
theorem w24_227 {x y : Int32} : W (pj lw) 24 227 L (.int y :: .int x :: S) k n H Q ↔ (if x = y then W (pj lw) 24 230 L S k n H Q else W (pj lw) 24 242 L S k n H Q) := W_icmp_ne (rfl : (pj lw).1 24 227 = some (.if_icmp .ne 15, 3, 0)) rfl
theorem w24_230 {x : Nat} : W (pj lw) 24 230 (.val (.ref x) :: L) S k n H Q ↔ W (pj lw) 24 231 (.val (.ref x) :: L) (.ref x :: S) k n H Q := W_s (rfl : (pj lw).1 24 230 = some (.aload_n 0, 1, 0)) rfl rfl rfl
theorem w24_231 {x : Int32} {l0 : Slot} : W (pj lw) 24 231 (l0 :: .val (.int x) :: L) S k n H Q ↔ W (pj lw) 24 232 (l0 :: .val (.int x) :: L) (.int x :: S) k n H Q := W_s (rfl : (pj lw).1 24 231 = some (.iload_n 1, 1, 0)) rfl rfl rfl
theorem w24_242 {x : Int32} {l0 l1 l2 l3 l4 l5 : Slot} : W (pj lw) 24 242 (l0 :: l1 :: l2 :: l3 :: l4 :: l5 :: .val (.int x) :: L) S k n H Q ↔ W (pj lw) 24 244 (l0 :: l1 :: l2 :: l3 :: l4 :: l5 :: .val (.int x) :: L) (.int x :: S) k n H Q := W_s (rfl : (pj lw).1 24 242 = some (.iload 6, 2, 0)) rfl rfl rfl
theorem w24_244 : W (pj lw) 24 244 L S k n H Q ↔ W (pj lw) 24 246 L (.int 43 :: S) k n H Q := W_s (rfl : (pj lw).1 24 244 = some (.bipush 43, 2, 0)) rfl rfl rfl
theorem w24_246 {x y : Int32} : W (pj lw) 24 246 L (.int y :: .int x :: S) k n H Q ↔ (if x = y then W (pj lw) 24 249 L S k n H Q else W (pj lw) 24 267 L S k n H Q) := W_icmp_ne (rfl : (pj lw).1 24 246 = some (.if_icmp .ne 21, 3, 0)) rfl
theorem w24_249 {x : Nat} : W (pj lw) 24 249 (.val (.ref x) :: L) S k n H Q ↔ W (pj lw) 24 250 (.val (.ref x) :: L) (.ref x :: S) k n H Q := W_s (rfl : (pj lw).1 24 249 = some (.aload_n 0, 1, 0)) rfl rfl rfl
theorem w24_250 {x : Nat} : W (pj lw) 24 250 L (.ref x :: S) k n H Q ↔ W (pj lw) 24 251 L (.ref x :: .ref x :: S) k n H Q := W_s (rfl : (pj lw).1 24 250 = some (.dup, 1, 0)) rfl rfl rfl
theorem w24_251 {a : Nat} : W (pj lw) 24 251 L (.ref a :: S) k n H Q ↔ (isO H a = true ∧ W (pj lw) 24 254 L (fld H a 7 :: S) k n H Q) := W_getf (rfl : (pj lw).1 24 251 = some (.getfield 78, 3, 7))
theorem w24_254 : W (pj lw) 24 254 L S k n H Q ↔ W (pj lw) 24 255 L (.int 1 :: S) k n H Q := W_s (rfl : (pj lw).1 24 254 = some (.iconst 1, 1, 0)) rfl rfl rfl
theorem w24_255 {x y : Int32} : W (pj lw) 24 255 L (.int y :: .int x :: S) k n H Q ↔ W (pj lw) 24 256 L (.int (x + y) :: S) k n H Q := W_s (rfl : (pj lw).1 24 255 = some (.iadd, 1, 0)) rfl rfl rfl
theorem w24_256 {a : Nat} {v : Value} : W (pj lw) 24 256 L (v :: .ref a :: S) k n H Q ↔ ((isOw H a = true ∧ okv (.int) v = true) ∧ W (pj lw) 24 259 L S k n (wr H a 7 v) Q) := W_putf (rfl : (pj lw).1 24 256 = some (.putfield 78, 3, 7))
theorem w24_259 {x : Int32} {l0 : Slot} : W (pj lw) 24 259 (l0 :: .val (.int x) :: L) S k n H Q ↔ W (pj lw) 24 262 (l0 :: .val (.int (x + 1)) :: L) S k n H Q := W_s (rfl : (pj lw).1 24 259 = some (.iinc 1 1, 3, 0)) rfl rfl rfl
theorem w24_262 : W (pj lw) 24 262 L S k n H Q ↔ W (pj lw) 24 263 L (.int 1 :: S) k n H Q := W_s (rfl : (pj lw).1 24 262 = some (.iconst 1, 1, 0)) rfl rfl rfl
theorem w24_263i {y : Int32} {x : Int32} {l0 l1 l2 : Slot} : W (pj lw) 24 263 (l0 :: l1 :: l2 :: .val (.int y) :: L) (.int x :: S) k n H Q ↔ W (pj lw) 24 264 (l0 :: l1 :: l2 :: .val (.int x) :: L) S k n H Q := W_istn (rfl : (pj lw).1 24 263 = some (.istore_n 3, 1, 0)) rfl rfl
theorem w24_264 : W (pj lw) 24 264 L S k n H Q ↔ W (pj lw) 24 312 L S k n H Q := W_goto (rfl : (pj lw).1 24 264 = some (.goto 48, 3, 0)) rfl
theorem w24_267 {x : Int32} {l0 l1 l2 l3 l4 l5 : Slot} : W (pj lw) 24 267 (l0 :: l1 :: l2 :: l3 :: l4 :: l5 :: .val (.int x) :: L) S k n H Q ↔ W (pj lw) 24 269 (l0 :: l1 :: l2 :: l3 :: l4 :: l5 :: .val (.int x) :: L) (.int x :: S) k n H Q := W_s (rfl : (pj lw).1 24 267 = some (.iload 6, 2, 0)) rfl rfl rfl
theorem w24_269 : W (pj lw) 24 269 L S k n H Q ↔ W (pj lw) 24 271 L (.int 61 :: S) k n H Q := W_s (rfl : (pj lw).1 24 269 = some (.bipush 61, 2, 0)) rfl rfl rfl
theorem w24_271 {x y : Int32} : W (pj lw) 24 271 L (.int y :: .int x :: S) k n H Q ↔ (if x = y then W (pj lw) 24 274 L S k n H Q else W (pj lw) 24 310 L S k n H Q) := W_icmp_ne (rfl : (pj lw).1 24 271 = some (.if_icmp .ne 39, 3, 0)) rfl
theorem w24_274 {x : Int32} {l0 l1 l2 l3 : Slot} : W (pj lw) 24 274 (l0 :: l1 :: l2 :: l3 :: .val (.int x) :: L) S k n H Q ↔ W (pj lw) 24 276 (l0 :: l1 :: l2 :: l3 :: .val (.int x) :: L) (.int x :: S) k n H Q := W_s (rfl : (pj lw).1 24 274 = some (.iload 4, 2, 0)) rfl rfl rfl
theorem w24_276 {x : Int32} : W (pj lw) 24 276 L (.int x :: S) k n H Q ↔ (if x = 0 then W (pj lw) 24 281 L S k n H Q else W (pj lw) 24 279 L S k n H Q) := W_if_eq (rfl : (pj lw).1 24 276 = some (.ifCond .eq 5, 3, 0)) rfl
theorem w24_279 : W (pj lw) 24 279 L S k n H Q ↔ W (pj lw) 24 280 L (.int 0 :: S) k n H Q := W_s (rfl : (pj lw).1 24 279 = some (.iconst 0, 1, 0)) rfl rfl rfl
theorem w24_280 {x : Int32} : W (pj lw) 24 280 L (.int x :: S) k n H Q ↔ ((x = 0 ∨ x = 1) ∧ Q (some (.int x)) H) := W_rz (rfl : (pj lw).1 24 280 = some (.ireturn, 1, 0)) rfl
theorem w24_281 : W (pj lw) 24 281 L S k n H Q ↔ W (pj lw) 24 282 L (.int 1 :: S) k n H Q := W_s (rfl : (pj lw).1 24 281 = some (.iconst 1, 1, 0)) rfl rfl rfl
theorem w24_282i {y : Int32} {x : Int32} {l0 l1 l2 l3 : Slot} : W (pj lw) 24 282 (l0 :: l1 :: l2 :: l3 :: .val (.int y) :: L) (.int x :: S) k n H Q ↔ W (pj lw) 24 284 (l0 :: l1 :: l2 :: l3 :: .val (.int x) :: L) S k n H Q := W_ist (rfl : (pj lw).1 24 282 = some (.istore 4, 2, 0)) rfl rfl
theorem w24_284 {x : Nat} : W (pj lw) 24 284 (.val (.ref x) :: L) S k n H Q ↔ W (pj lw) 24 285 (.val (.ref x) :: L) (.ref x :: S) k n H Q := W_s (rfl : (pj lw).1 24 284 = some (.aload_n 0, 1, 0)) rfl rfl rfl
theorem w24_285 {x : Nat} : W (pj lw) 24 285 (.val (.ref x) :: L) S k n H Q ↔ W (pj lw) 24 286 (.val (.ref x) :: L) (.ref x :: S) k n H Q := W_s (rfl : (pj lw).1 24 285 = some (.aload_n 0, 1, 0)) rfl rfl rfl
theorem w24_286 {a : Nat} : W (pj lw) 24 286 L (.ref a :: S) k n H Q ↔ (isO H a = true ∧ W (pj lw) 24 289 L (fld H a 7 :: S) k n H Q) := W_getf (rfl : (pj lw).1 24 286 = some (.getfield 78, 3, 7))
theorem w24_289 {a : Nat} {v : Value} : W (pj lw) 24 289 L (v :: .ref a :: S) k n H Q ↔ ((isOw H a = true ∧ okv (.int) v = true) ∧ W (pj lw) 24 292 L S k n (wr H a 8 v) Q) := W_putf (rfl : (pj lw).1 24 289 = some (.putfield 87, 3, 8))
theorem w24_292 {x : Nat} : W (pj lw) 24 292 (.val (.ref x) :: L) S k n H Q ↔ W (pj lw) 24 293 (.val (.ref x) :: L) (.ref x :: S) k n H Q := W_s (rfl : (pj lw).1 24 292 = some (.aload_n 0, 1, 0)) rfl rfl rfl
theorem w24_293 {x : Nat} : W (pj lw) 24 293 L (.ref x :: S) k n H Q ↔ W (pj lw) 24 294 L (.ref x :: .ref x :: S) k n H Q := W_s (rfl : (pj lw).1 24 293 = some (.dup, 1, 0)) rfl rfl rfl
theorem w24_294 {a : Nat} : W (pj lw) 24 294 L (.ref a :: S) k n H Q ↔ (isO H a = true ∧ W (pj lw) 24 297 L (fld H a 7 :: S) k n H Q) := W_getf (rfl : (pj lw).1 24 294 = some (.getfield 78, 3, 7))
theorem w24_297 : W (pj lw) 24 297 L S k n H Q ↔ W (pj lw) 24 298 L (.int 1 :: S) k n H Q := W_s (rfl : (pj lw).1 24 297 = some (.iconst 1, 1, 0)) rfl rfl rfl
theorem w24_298 {x y : Int32} : W (pj lw) 24 298 L (.int y :: .int x :: S) k n H Q ↔ W (pj lw) 24 299 L (.int (x + y) :: S) k n H Q := W_s (rfl : (pj lw).1 24 298 = some (.iadd, 1, 0)) rfl rfl rfl
theorem w24_299 {a : Nat} {v : Value} : W (pj lw) 24 299 L (v :: .ref a :: S) k n H Q ↔ ((isOw H a = true ∧ okv (.int) v = true) ∧ W (pj lw) 24 302 L S k n (wr H a 7 v) Q) := W_putf (rfl : (pj lw).1 24 299 = some (.putfield 78, 3, 7))
theorem w24_302 {x : Int32} {l0 : Slot} : W (pj lw) 24 302 (l0 :: .val (.int x) :: L) S k n H Q ↔ W (pj lw) 24 305 (l0 :: .val (.int (x + 1)) :: L) S k n H Q := W_s (rfl : (pj lw).1 24 302 = some (.iinc 1 1, 3, 0)) rfl rfl rfl
theorem w24_305 : W (pj lw) 24 305 L S k n H Q ↔ W (pj lw) 24 306 L (.int 1 :: S) k n H Q := W_s (rfl : (pj lw).1 24 305 = some (.iconst 1, 1, 0)) rfl rfl rfl
theorem w24_306i {y : Int32} {x : Int32} {l0 l1 l2 : Slot} : W (pj lw) 24 306 (l0 :: l1 :: l2 :: .val (.int y) :: L) (.int x :: S) k n H Q ↔ W (pj lw) 24 307 (l0 :: l1 :: l2 :: .val (.int x) :: L) S k n H Q := W_istn (rfl : (pj lw).1 24 306 = some (.istore_n 3, 1, 0)) rfl rfl
theorem w24_307 : W (pj lw) 24 307 L S k n H Q ↔ W (pj lw) 24 312 L S k n H Q := W_goto (rfl : (pj lw).1 24 307 = some (.goto 5, 3, 0)) rfl
theorem w24_310 : W (pj lw) 24 310 L S k n H Q ↔ W (pj lw) 24 311 L (.int 0 :: S) k n H Q := W_s (rfl : (pj lw).1 24 310 = some (.iconst 0, 1, 0)) rfl rfl rfl
theorem w24_311 {x : Int32} : W (pj lw) 24 311 L (.int x :: S) k n H Q ↔ ((x = 0 ∨ x = 1) ∧ Q (some (.int x)) H) := W_rz (rfl : (pj lw).1 24 311 = some (.ireturn, 1, 0)) rfl
theorem w24_312 {x : Int32} {l0 l1 l2 l3 l4 : Slot} : W (pj lw) 24 312 (l0 :: l1 :: l2 :: l3 :: l4 :: .val (.int x) :: L) S k n H Q ↔ W (pj lw) 24 315 (l0 :: l1 :: l2 :: l3 :: l4 :: .val (.int (x + 1)) :: L) S k n H Q := W_s (rfl : (pj lw).1 24 312 = some (.iinc 5 1, 3, 0)) rfl rfl rfl
theorem w24_315 : W (pj lw) 24 315 L S k n H Q ↔ W (pj lw) 24 27 L S k n H Q := W_goto (rfl : (pj lw).1 24 315 = some (.goto (-288), 3, 0)) rfl
theorem w24_318 {x : Int32} {l0 : Slot} : W (pj lw) 24 318 (l0 :: .val (.int x) :: L) S k n H Q ↔ W (pj lw) 24 319 (l0 :: .val (.int x) :: L) (.int x :: S) k n H Q := W_s (rfl : (pj lw).1 24 318 = some (.iload_n 1, 1, 0)) rfl rfl rfl
theorem w24_319 {x : Nat} : W (pj lw) 24 319 (.val (.ref x) :: L) S k n H Q ↔ W (pj lw) 24 320 (.val (.ref x) :: L) (.ref x :: S) k n H Q := W_s (rfl : (pj lw).1 24 319 = some (.aload_n 0, 1, 0)) rfl rfl rfl
theorem w24_320 {a : Nat} : W (pj lw) 24 320 L (.ref a :: S) k n H Q ↔ (isO H a = true ∧ W (pj lw) 24 323 L (fld H a 3 :: S) k n H Q) := W_getf (rfl : (pj lw).1 24 320 = some (.getfield 63, 3, 3))
theorem w24_323 {x y : Int32} : W (pj lw) 24 323 L (.int y :: .int x :: S) k n H Q ↔ (if x = y then W (pj lw) 24 326 L S k n H Q else W (pj lw) 24 343 L S k n H Q) := W_icmp_ne (rfl : (pj lw).1 24 323 = some (.if_icmp .ne 20, 3, 0)) rfl
theorem w24_326 {x : Int32} {l0 l1 l2 : Slot} : W (pj lw) 24 326 (l0 :: l1 :: l2 :: .val (.int x) :: L) S k n H Q ↔ W (pj lw) 24 327 (l0 :: l1 :: l2 :: .val (.int x) :: L) (.int x :: S) k n H Q := W_s (rfl : (pj lw).1 24 326 = some (.iload_n 3, 1, 0)) rfl rfl rfl
theorem w24_327 {x : Int32} : W (pj lw) 24 327 L (.int x :: S) k n H Q ↔ (if x = 0 then W (pj lw) 24 330 L S k n H Q else W (pj lw) 24 343 L S k n H Q) := W_if_ne (rfl : (pj lw).1 24 327 = some (.ifCond .ne 16, 3, 0)) rfl
theorem w24_330 {x : Int32} {l0 l1 : Slot} : W (pj lw) 24 330 (l0 :: l1 :: .val (.int x) :: L) S k n H Q ↔ W (pj lw) 24 331 (l0 :: l1 :: .val (.int x) :: L) (.int x :: S) k n H Q := W_s (rfl : (pj lw).1 24 330 = some (.iload_n 2, 1, 0)) rfl rfl rfl
theorem w24_331 {x : Int32} : W (pj lw) 24 331 L (.int x :: S) k n H Q ↔ (if x = 0 then W (pj lw) 24 334 L S k n H Q else W (pj lw) 24 343 L S k n H Q) := W_if_ne (rfl : (pj lw).1 24 331 = some (.ifCond .ne 12, 3, 0)) rfl
theorem w24_334 {x : Int32} {l0 l1 l2 l3 : Slot} : W (pj lw) 24 334 (l0 :: l1 :: l2 :: l3 :: .val (.int x) :: L) S k n H Q ↔ W (pj lw) 24 336 (l0 :: l1 :: l2 :: l3 :: .val (.int x) :: L) (.int x :: S) k n H Q := W_s (rfl : (pj lw).1 24 334 = some (.iload 4, 2, 0)) rfl rfl rfl
theorem w24_336 {x : Int32} : W (pj lw) 24 336 L (.int x :: S) k n H Q ↔ (if x = 0 then W (pj lw) 24 343 L S k n H Q else W (pj lw) 24 339 L S k n H Q) := W_if_eq (rfl : (pj lw).1 24 336 = some (.ifCond .eq 7, 3, 0)) rfl
theorem w24_339 : W (pj lw) 24 339 L S k n H Q ↔ W (pj lw) 24 340 L (.int 1 :: S) k n H Q := W_s (rfl : (pj lw).1 24 339 = some (.iconst 1, 1, 0)) rfl rfl rfl
theorem w24_340 : W (pj lw) 24 340 L S k n H Q ↔ W (pj lw) 24 344 L S k n H Q := W_goto (rfl : (pj lw).1 24 340 = some (.goto 4, 3, 0)) rfl
theorem w24_343 : W (pj lw) 24 343 L S k n H Q ↔ W (pj lw) 24 344 L (.int 0 :: S) k n H Q := W_s (rfl : (pj lw).1 24 343 = some (.iconst 0, 1, 0)) rfl rfl rfl
theorem w24_344 {x : Int32} : W (pj lw) 24 344 L (.int x :: S) k n H Q ↔ ((x = 0 ∨ x = 1) ∧ Q (some (.int x)) H) := W_rz (rfl : (pj lw).1 24 344 = some (.ireturn, 1, 0)) rfl
theorem c25 {x0 : Nat} {x1 : Int32} : Cl (pj lw) 25 [.ref x0, .int x1] H Q ↔ W (pj lw) 25 0 [.val (.ref x0), .val (.int x1), .unset, .unset] [] 0 0 H Q := cl_unf rfl
theorem w25_0 {x : Nat} : W (pj lw) 25 0 (.val (.ref x) :: L) S k n H Q ↔ W (pj lw) 25 1 (.val (.ref x) :: L) (.ref x :: S) k n H Q := W_s (rfl : (pj lw).1 25 0 = some (.aload_n 0, 1, 0)) rfl rfl rfl
theorem w25_1 {a : Nat} : W (pj lw) 25 1 L (.ref a :: S) k n H Q ↔ (isO H a = true ∧ W (pj lw) 25 4 L (fld H a 2 :: S) k n H Q) := W_getf (rfl : (pj lw).1 25 1 = some (.getfield 7, 3, 2))
theorem w25_4 {x : Int32} {l0 : Slot} : W (pj lw) 25 4 (l0 :: .val (.int x) :: L) S k n H Q ↔ W (pj lw) 25 5 (l0 :: .val (.int x) :: L) (.int x :: S) k n H Q := W_s (rfl : (pj lw).1 25 4 = some (.iload_n 1, 1, 0)) rfl rfl rfl
theorem w25_5 {i : Int32} {a : Nat} : W (pj lw) 25 5 L (.int i :: .ref a :: S) k n H Q ↔ (inA H a .int i = true ∧ W (pj lw) 25 6 L (elt H a i :: S) k n H Q) := W_iaload (rfl : (pj lw).1 25 5 = some (.iaload, 1, 0))
theorem w25_6 : W (pj lw) 25 6 L S k n H Q ↔ W (pj lw) 25 8 L (.int 65 :: S) k n H Q := W_s (rfl : (pj lw).1 25 6 = some (.bipush 65, 2, 0)) rfl rfl rfl
theorem w25_8 {x y : Int32} : W (pj lw) 25 8 L (.int y :: .int x :: S) k n H Q ↔ W (pj lw) 25 9 L (.int (x - y) :: S) k n H Q := W_s (rfl : (pj lw).1 25 8 = some (.isub, 1, 0)) rfl rfl rfl
theorem w25_9 : W (pj lw) 25 9 L S k n H Q ↔ W (pj lw) 25 11 L (.int 27 :: S) k n H Q := W_s (rfl : (pj lw).1 25 9 = some (.bipush 27, 2, 0)) rfl rfl rfl
theorem w25_11 {x y : Int32} : W (pj lw) 25 11 L (.int y :: .int x :: S) k n H Q ↔ W (pj lw) 25 12 L (.int (x * y) :: S) k n H Q := W_s (rfl : (pj lw).1 25 11 = some (.imul, 1, 0)) rfl rfl rfl
theorem w25_12 {x : Int32} {l0 l1 : Slot} : W (pj lw) 25 12 (l0 :: l1 :: .unset :: L) (.int x :: S) k n H Q ↔ W (pj lw) 25 13 (l0 :: l1 :: .val (.int x) :: L) S k n H Q := W_istn (rfl : (pj lw).1 25 12 = some (.istore_n 2, 1, 0)) rfl rfl
theorem w25_13 {x : Int32} {l0 : Slot} : W (pj lw) 25 13 (l0 :: .val (.int x) :: L) S k n H Q ↔ W (pj lw) 25 14 (l0 :: .val (.int x) :: L) (.int x :: S) k n H Q := W_s (rfl : (pj lw).1 25 13 = some (.iload_n 1, 1, 0)) rfl rfl rfl
theorem w25_14 : W (pj lw) 25 14 L S k n H Q ↔ W (pj lw) 25 15 L (.int 1 :: S) k n H Q := W_s (rfl : (pj lw).1 25 14 = some (.iconst 1, 1, 0)) rfl rfl rfl
theorem w25_15 {x y : Int32} : W (pj lw) 25 15 L (.int y :: .int x :: S) k n H Q ↔ W (pj lw) 25 16 L (.int (x + y) :: S) k n H Q := W_s (rfl : (pj lw).1 25 15 = some (.iadd, 1, 0)) rfl rfl rfl
theorem w25_16 {x : Int32} {l0 l1 l2 : Slot} : W (pj lw) 25 16 (l0 :: l1 :: l2 :: .unset :: L) (.int x :: S) k n H Q ↔ W (pj lw) 25 17 (l0 :: l1 :: l2 :: .val (.int x) :: L) S k n H Q := W_istn (rfl : (pj lw).1 25 16 = some (.istore_n 3, 1, 0)) rfl rfl
theorem w25_17 {x : Int32} {l0 l1 l2 : Slot} : W (pj lw) 25 17 (l0 :: l1 :: l2 :: .val (.int x) :: L) S k n H Q ↔ W (pj lw) 25 18 (l0 :: l1 :: l2 :: .val (.int x) :: L) (.int x :: S) k n H Q := W_s (rfl : (pj lw).1 25 17 = some (.iload_n 3, 1, 0)) rfl rfl rfl
theorem w25_18 {x : Nat} : W (pj lw) 25 18 (.val (.ref x) :: L) S k n H Q ↔ W (pj lw) 25 19 (.val (.ref x) :: L) (.ref x :: S) k n H Q := W_s (rfl : (pj lw).1 25 18 = some (.aload_n 0, 1, 0)) rfl rfl rfl
theorem w25_19 {a : Nat} : W (pj lw) 25 19 L (.ref a :: S) k n H Q ↔ (isO H a = true ∧ W (pj lw) 25 22 L (fld H a 3 :: S) k n H Q) := W_getf (rfl : (pj lw).1 25 19 = some (.getfield 63, 3, 3))
theorem w25_22 {x y : Int32} : W (pj lw) 25 22 L (.int y :: .int x :: S) k n H Q ↔ (if x < y then W (pj lw) 25 25 L S k n H Q else W (pj lw) 25 55 L S k n H Q) := W_icmp_ge (rfl : (pj lw).1 25 22 = some (.if_icmp .ge 33, 3, 0)) rfl
theorem w25_25 {x : Nat} : W (pj lw) 25 25 (.val (.ref x) :: L) S k n H Q ↔ W (pj lw) 25 26 (.val (.ref x) :: L) (.ref x :: S) k n H Q := W_s (rfl : (pj lw).1 25 25 = some (.aload_n 0, 1, 0)) rfl rfl rfl
theorem w25_26 {x : Nat} : W (pj lw) 25 26 (.val (.ref x) :: L) S k n H Q ↔ W (pj lw) 25 27 (.val (.ref x) :: L) (.ref x :: S) k n H Q := W_s (rfl : (pj lw).1 25 26 = some (.aload_n 0, 1, 0)) rfl rfl rfl
theorem w25_27 {a : Nat} : W (pj lw) 25 27 L (.ref a :: S) k n H Q ↔ (isO H a = true ∧ W (pj lw) 25 30 L (fld H a 2 :: S) k n H Q) := W_getf (rfl : (pj lw).1 25 27 = some (.getfield 7, 3, 2))
theorem w25_30 {x : Int32} {l0 l1 l2 : Slot} : W (pj lw) 25 30 (l0 :: l1 :: l2 :: .val (.int x) :: L) S k n H Q ↔ W (pj lw) 25 31 (l0 :: l1 :: l2 :: .val (.int x) :: L) (.int x :: S) k n H Q := W_s (rfl : (pj lw).1 25 30 = some (.iload_n 3, 1, 0)) rfl rfl rfl
theorem w25_31 {i : Int32} {a : Nat} : W (pj lw) 25 31 L (.int i :: .ref a :: S) k n H Q ↔ (inA H a .int i = true ∧ W (pj lw) 25 32 L (elt H a i :: S) k n H Q) := W_iaload (rfl : (pj lw).1 25 31 = some (.iaload, 1, 0))
theorem w25_32 {a : Nat} {x0 : Int32} : W (pj lw) 25 32 L (.int x0 :: .ref a :: S) k n H Q ↔ ((isO H a = true ∧ cs S + (2 + 11) + 0 ≤ 26) ∧ Cl (pj lw) 21 [.ref a, .int x0] H (fun v H => W (pj lw) 25 35 L (v.toList ++ S) k n H Q)) := W_inst (as := [.int x0]) (rfl : (pj lw).1 25 32 = some (.invokevirtual 125, 3, 21)) rfl rfl rfl (Nat.le_of_ble_eq_true rfl) (Nat.le_of_ble_eq_true rfl) ⟨rfl, rfl⟩
theorem w25_35 {x : Int32} : W (pj lw) 25 35 L (.int x :: S) k n H Q ↔ (if x = 0 then W (pj lw) 25 55 L S k n H Q else W (pj lw) 25 38 L S k n H Q) := W_if_eq (rfl : (pj lw).1 25 35 = some (.ifCond .eq 20, 3, 0)) rfl
theorem w25_38 {x : Int32} {l0 l1 : Slot} : W (pj lw) 25 38 (l0 :: l1 :: .val (.int x) :: L) S k n H Q ↔ W (pj lw) 25 39 (l0 :: l1 :: .val (.int x) :: L) (.int x :: S) k n H Q := W_s (rfl : (pj lw).1 25 38 = some (.iload_n 2, 1, 0)) rfl rfl rfl
theorem w25_39 {x : Nat} : W (pj lw) 25 39 (.val (.ref x) :: L) S k n H Q ↔ W (pj lw) 25 40 (.val (.ref x) :: L) (.ref x :: S) k n H Q := W_s (rfl : (pj lw).1 25 39 = some (.aload_n 0, 1, 0)) rfl rfl rfl
theorem w25_40 {a : Nat} : W (pj lw) 25 40 L (.ref a :: S) k n H Q ↔ (isO H a = true ∧ W (pj lw) 25 43 L (fld H a 2 :: S) k n H Q) := W_getf (rfl : (pj lw).1 25 40 = some (.getfield 7, 3, 2))
theorem w25_43 {x : Int32} {l0 l1 l2 : Slot} : W (pj lw) 25 43 (l0 :: l1 :: l2 :: .val (.int x) :: L) S k n H Q ↔ W (pj lw) 25 44 (l0 :: l1 :: l2 :: .val (.int x) :: L) (.int x :: S) k n H Q := W_s (rfl : (pj lw).1 25 43 = some (.iload_n 3, 1, 0)) rfl rfl rfl
theorem w25_44 {i : Int32} {a : Nat} : W (pj lw) 25 44 L (.int i :: .ref a :: S) k n H Q ↔ (inA H a .int i = true ∧ W (pj lw) 25 45 L (elt H a i :: S) k n H Q) := W_iaload (rfl : (pj lw).1 25 44 = some (.iaload, 1, 0))
theorem w25_45 : W (pj lw) 25 45 L S k n H Q ↔ W (pj lw) 25 47 L (.int 97 :: S) k n H Q := W_s (rfl : (pj lw).1 25 45 = some (.bipush 97, 2, 0)) rfl rfl rfl
theorem w25_47 {x y : Int32} : W (pj lw) 25 47 L (.int y :: .int x :: S) k n H Q ↔ W (pj lw) 25 48 L (.int (x - y) :: S) k n H Q := W_s (rfl : (pj lw).1 25 47 = some (.isub, 1, 0)) rfl rfl rfl
theorem w25_48 : W (pj lw) 25 48 L S k n H Q ↔ W (pj lw) 25 49 L (.int 1 :: S) k n H Q := W_s (rfl : (pj lw).1 25 48 = some (.iconst 1, 1, 0)) rfl rfl rfl
theorem w25_49 {x y : Int32} : W (pj lw) 25 49 L (.int y :: .int x :: S) k n H Q ↔ W (pj lw) 25 50 L (.int (x + y) :: S) k n H Q := W_s (rfl : (pj lw).1 25 49 = some (.iadd, 1, 0)) rfl rfl rfl
theorem w25_50 {x y : Int32} : W (pj lw) 25 50 L (.int y :: .int x :: S) k n H Q ↔ W (pj lw) 25 51 L (.int (x + y) :: S) k n H Q := W_s (rfl : (pj lw).1 25 50 = some (.iadd, 1, 0)) rfl rfl rfl
theorem w25_51i {y : Int32} {x : Int32} {l0 l1 : Slot} : W (pj lw) 25 51 (l0 :: l1 :: .val (.int y) :: L) (.int x :: S) k n H Q ↔ W (pj lw) 25 52 (l0 :: l1 :: .val (.int x) :: L) S k n H Q := W_istn (rfl : (pj lw).1 25 51 = some (.istore_n 2, 1, 0)) rfl rfl
theorem w25_52 {x : Int32} {l0 l1 l2 : Slot} : W (pj lw) 25 52 (l0 :: l1 :: l2 :: .val (.int x) :: L) S k n H Q ↔ W (pj lw) 25 55 (l0 :: l1 :: l2 :: .val (.int (x + 1)) :: L) S k n H Q := W_s (rfl : (pj lw).1 25 52 = some (.iinc 3 1, 3, 0)) rfl rfl rfl
theorem w25_55 {x : Nat} : W (pj lw) 25 55 (.val (.ref x) :: L) S k n H Q ↔ W (pj lw) 25 56 (.val (.ref x) :: L) (.ref x :: S) k n H Q := W_s (rfl : (pj lw).1 25 55 = some (.aload_n 0, 1, 0)) rfl rfl rfl
theorem w25_56 {x : Int32} {l0 l1 : Slot} : W (pj lw) 25 56 (l0 :: l1 :: .val (.int x) :: L) S k n H Q ↔ W (pj lw) 25 57 (l0 :: l1 :: .val (.int x) :: L) (.int x :: S) k n H Q := W_s (rfl : (pj lw).1 25 56 = some (.iload_n 2, 1, 0)) rfl rfl rfl
theorem w25_57 {a : Nat} {x0 : Int32} : W (pj lw) 25 57 L (.int x0 :: .ref a :: S) k n H Q ↔ ((isO H a = true ∧ cs S + (3 + 11) + 0 ≤ 26) ∧ Cl (pj lw) 26 [.ref a, .int x0] H (fun v H => W (pj lw) 25 60 L (v.toList ++ S) k n H Q)) := W_inst (as := [.int x0]) (rfl : (pj lw).1 25 57 = some (.invokevirtual 141, 3, 26)) rfl rfl rfl (Nat.le_of_ble_eq_true rfl) (Nat.le_of_ble_eq_true rfl) ⟨rfl, rfl⟩
theorem w25_60 {x : Nat} : W (pj lw) 25 60 (.val (.ref x) :: L) S k n H Q ↔ W (pj lw) 25 61 (.val (.ref x) :: L) (.ref x :: S) k n H Q := W_s (rfl : (pj lw).1 25 60 = some (.aload_n 0, 1, 0)) rfl rfl rfl
theorem w25_61 {x : Int32} {l0 l1 l2 : Slot} : W (pj lw) 25 61 (l0 :: l1 :: l2 :: .val (.int x) :: L) S k n H Q ↔ W (pj lw) 25 62 (l0 :: l1 :: l2 :: .val (.int x) :: L) (.int x :: S) k n H Q := W_s (rfl : (pj lw).1 25 61 = some (.iload_n 3, 1, 0)) rfl rfl rfl
theorem w25_62 {a : Nat} {x0 : Int32} : W (pj lw) 25 62 L (.int x0 :: .ref a :: S) k n H Q ↔ ((isO H a = true ∧ cs S + (2 + 11) + 13 ≤ 26) ∧ Cl (pj lw) 27 [.ref a, .int x0] H (fun v H => W (pj lw) 25 65 L (v.toList ++ S) k n H Q)) := W_inst (as := [.int x0]) (rfl : (pj lw).1 25 62 = some (.invokevirtual 135, 3, 27)) rfl rfl rfl (Nat.le_of_ble_eq_true rfl) (Nat.le_of_ble_eq_true rfl) ⟨rfl, rfl⟩
theorem w25_65 {x : Int32} : W (pj lw) 25 65 L (.int x :: S) k n H Q ↔ Q (some (.int x)) H := W_r (rfl : (pj lw).1 25 65 = some (.ireturn, 1, 0)) rfl
theorem c26 {x0 : Nat} {x1 : Int32} : Cl (pj lw) 26 [.ref x0, .int x1] H Q ↔ W (pj lw) 26 0 [.val (.ref x0), .val (.int x1), .unset] [] 0 0 H Q := cl_unf rfl
theorem w26_0 : W (pj lw) 26 0 L S k n H Q ↔ W (pj lw) 26 1 L (.int 0 :: S) k n H Q := W_s (rfl : (pj lw).1 26 0 = some (.iconst 0, 1, 0)) rfl rfl rfl
theorem w26_1 {x : Int32} {l0 l1 : Slot} : W (pj lw) 26 1 (l0 :: l1 :: .unset :: L) (.int x :: S) k n H Q ↔ W (pj lw) 26 2 (l0 :: l1 :: .val (.int x) :: L) S k n H Q := W_istn (rfl : (pj lw).1 26 1 = some (.istore_n 2, 1, 0)) rfl rfl
theorem w26_2 {x : Int32} {l0 l1 : Slot} : W (pj lw) 26 2 (l0 :: l1 :: .val (.int x) :: L) S k n H Q ↔ W (pj lw) 26 3 (l0 :: l1 :: .val (.int x) :: L) (.int x :: S) k n H Q := W_s (rfl : (pj lw).1 26 2 = some (.iload_n 2, 1, 0)) rfl rfl rfl
theorem w26_3 {x : Nat} : W (pj lw) 26 3 (.val (.ref x) :: L) S k n H Q ↔ W (pj lw) 26 4 (.val (.ref x) :: L) (.ref x :: S) k n H Q := W_s (rfl : (pj lw).1 26 3 = some (.aload_n 0, 1, 0)) rfl rfl rfl
theorem w26_4 {a : Nat} : W (pj lw) 26 4 L (.ref a :: S) k n H Q ↔ (isO H a = true ∧ W (pj lw) 26 7 L (fld H a 6 :: S) k n H Q) := W_getf (rfl : (pj lw).1 26 4 = some (.getfield 81, 3, 6))
theorem w26_7 {x y : Int32} : W (pj lw) 26 7 L (.int y :: .int x :: S) k n H Q ↔ (if x < y then W (pj lw) 26 10 L S k n H Q else W (pj lw) 26 33 L S k n H Q) := W_icmp_ge (rfl : (pj lw).1 26 7 = some (.if_icmp .ge 26, 3, 0)) rfl
theorem w26_10 {x : Int32} {l0 l1 : Slot} : W (pj lw) 26 10 (l0 :: l1 :: .val (.int x) :: L) S k n H Q ↔ W (pj lw) 26 11 (l0 :: l1 :: .val (.int x) :: L) (.int x :: S) k n H Q := W_s (rfl : (pj lw).1 26 10 = some (.iload_n 2, 1, 0)) rfl rfl rfl
theorem w26_11 : W (pj lw) 26 11 L S k n H Q ↔ W (pj lw) 26 13 L (.int 96 :: S) k n H Q := W_s (rfl : (pj lw).1 26 11 = some (.bipush 96, 2, 0)) rfl rfl rfl
theorem w26_13 {x y : Int32} : W (pj lw) 26 13 L (.int y :: .int x :: S) k n H Q ↔ (if x < y then W (pj lw) 26 16 L S k n H Q else W (pj lw) 26 33 L S k n H Q) := W_icmp_ge (rfl : (pj lw).1 26 13 = some (.if_icmp .ge 20, 3, 0)) rfl
theorem w26_16 {x : Nat} : W (pj lw) 26 16 (.val (.ref x) :: L) S k n H Q ↔ W (pj lw) 26 17 (.val (.ref x) :: L) (.ref x :: S) k n H Q := W_s (rfl : (pj lw).1 26 16 = some (.aload_n 0, 1, 0)) rfl rfl rfl
theorem w26_17 {a : Nat} : W (pj lw) 26 17 L (.ref a :: S) k n H Q ↔ (isO H a = true ∧ W (pj lw) 26 20 L (fld H a 5 :: S) k n H Q) := W_getf (rfl : (pj lw).1 26 17 = some (.getfield 16, 3, 5))
theorem w26_20 {x : Int32} {l0 l1 : Slot} : W (pj lw) 26 20 (l0 :: l1 :: .val (.int x) :: L) S k n H Q ↔ W (pj lw) 26 21 (l0 :: l1 :: .val (.int x) :: L) (.int x :: S) k n H Q := W_s (rfl : (pj lw).1 26 20 = some (.iload_n 2, 1, 0)) rfl rfl rfl
theorem w26_21 {i : Int32} {a : Nat} : W (pj lw) 26 21 L (.int i :: .ref a :: S) k n H Q ↔ (inA H a .int i = true ∧ W (pj lw) 26 22 L (elt H a i :: S) k n H Q) := W_iaload (rfl : (pj lw).1 26 21 = some (.iaload, 1, 0))
theorem w26_22 {x : Int32} {l0 : Slot} : W (pj lw) 26 22 (l0 :: .val (.int x) :: L) S k n H Q ↔ W (pj lw) 26 23 (l0 :: .val (.int x) :: L) (.int x :: S) k n H Q := W_s (rfl : (pj lw).1 26 22 = some (.iload_n 1, 1, 0)) rfl rfl rfl
theorem w26_23 {x y : Int32} : W (pj lw) 26 23 L (.int y :: .int x :: S) k n H Q ↔ (if x = y then W (pj lw) 26 26 L S k n H Q else W (pj lw) 26 27 L S k n H Q) := W_icmp_ne (rfl : (pj lw).1 26 23 = some (.if_icmp .ne 4, 3, 0)) rfl
theorem w26_26 : W (pj lw) 26 26 L [] k n H Q ↔ Q none H := W_r (rfl : (pj lw).1 26 26 = some (.return_, 1, 0)) rfl
theorem w26_27 {x : Int32} {l0 l1 : Slot} : W (pj lw) 26 27 (l0 :: l1 :: .val (.int x) :: L) S k n H Q ↔ W (pj lw) 26 30 (l0 :: l1 :: .val (.int (x + 1)) :: L) S k n H Q := W_s (rfl : (pj lw).1 26 27 = some (.iinc 2 1, 3, 0)) rfl rfl rfl
theorem w26_30 : W (pj lw) 26 30 L S k n H Q ↔ W (pj lw) 26 2 L S k n H Q := W_goto (rfl : (pj lw).1 26 30 = some (.goto (-28), 3, 0)) rfl
theorem w26_33 {x : Nat} : W (pj lw) 26 33 (.val (.ref x) :: L) S k n H Q ↔ W (pj lw) 26 34 (.val (.ref x) :: L) (.ref x :: S) k n H Q := W_s (rfl : (pj lw).1 26 33 = some (.aload_n 0, 1, 0)) rfl rfl rfl
theorem w26_34 {a : Nat} : W (pj lw) 26 34 L (.ref a :: S) k n H Q ↔ (isO H a = true ∧ W (pj lw) 26 37 L (fld H a 6 :: S) k n H Q) := W_getf (rfl : (pj lw).1 26 34 = some (.getfield 81, 3, 6))
theorem w26_37 : W (pj lw) 26 37 L S k n H Q ↔ W (pj lw) 26 39 L (.int 96 :: S) k n H Q := W_s (rfl : (pj lw).1 26 37 = some (.bipush 96, 2, 0)) rfl rfl rfl
theorem w26_39 {x y : Int32} : W (pj lw) 26 39 L (.int y :: .int x :: S) k n H Q ↔ (if x < y then W (pj lw) 26 42 L S k n H Q else W (pj lw) 26 62 L S k n H Q) := W_icmp_ge (rfl : (pj lw).1 26 39 = some (.if_icmp .ge 23, 3, 0)) rfl
theorem w26_42 {x : Nat} : W (pj lw) 26 42 (.val (.ref x) :: L) S k n H Q ↔ W (pj lw) 26 43 (.val (.ref x) :: L) (.ref x :: S) k n H Q := W_s (rfl : (pj lw).1 26 42 = some (.aload_n 0, 1, 0)) rfl rfl rfl
theorem w26_43 {a : Nat} : W (pj lw) 26 43 L (.ref a :: S) k n H Q ↔ (isO H a = true ∧ W (pj lw) 26 46 L (fld H a 5 :: S) k n H Q) := W_getf (rfl : (pj lw).1 26 43 = some (.getfield 16, 3, 5))
theorem w26_46 {x : Nat} : W (pj lw) 26 46 (.val (.ref x) :: L) S k n H Q ↔ W (pj lw) 26 47 (.val (.ref x) :: L) (.ref x :: S) k n H Q := W_s (rfl : (pj lw).1 26 46 = some (.aload_n 0, 1, 0)) rfl rfl rfl
theorem w26_47 {a : Nat} : W (pj lw) 26 47 L (.ref a :: S) k n H Q ↔ (isO H a = true ∧ W (pj lw) 26 50 L (fld H a 6 :: S) k n H Q) := W_getf (rfl : (pj lw).1 26 47 = some (.getfield 81, 3, 6))
theorem w26_50 {x : Int32} {l0 : Slot} : W (pj lw) 26 50 (l0 :: .val (.int x) :: L) S k n H Q ↔ W (pj lw) 26 51 (l0 :: .val (.int x) :: L) (.int x :: S) k n H Q := W_s (rfl : (pj lw).1 26 50 = some (.iload_n 1, 1, 0)) rfl rfl rfl
theorem w26_51 {x i : Int32} {a : Nat} : W (pj lw) 26 51 L (.int x :: .int i :: .ref a :: S) k n H Q ↔ (inAw H a .int i = true ∧ W (pj lw) 26 52 L S k n (wr H a i.toNatClampNeg (.int x)) Q) := W_iastore (rfl : (pj lw).1 26 51 = some (.iastore, 1, 0))
theorem w26_52 {x : Nat} : W (pj lw) 26 52 (.val (.ref x) :: L) S k n H Q ↔ W (pj lw) 26 53 (.val (.ref x) :: L) (.ref x :: S) k n H Q := W_s (rfl : (pj lw).1 26 52 = some (.aload_n 0, 1, 0)) rfl rfl rfl
theorem w26_53 {x : Nat} : W (pj lw) 26 53 L (.ref x :: S) k n H Q ↔ W (pj lw) 26 54 L (.ref x :: .ref x :: S) k n H Q := W_s (rfl : (pj lw).1 26 53 = some (.dup, 1, 0)) rfl rfl rfl
theorem w26_54 {a : Nat} : W (pj lw) 26 54 L (.ref a :: S) k n H Q ↔ (isO H a = true ∧ W (pj lw) 26 57 L (fld H a 6 :: S) k n H Q) := W_getf (rfl : (pj lw).1 26 54 = some (.getfield 81, 3, 6))
theorem w26_57 : W (pj lw) 26 57 L S k n H Q ↔ W (pj lw) 26 58 L (.int 1 :: S) k n H Q := W_s (rfl : (pj lw).1 26 57 = some (.iconst 1, 1, 0)) rfl rfl rfl
theorem w26_58 {x y : Int32} : W (pj lw) 26 58 L (.int y :: .int x :: S) k n H Q ↔ W (pj lw) 26 59 L (.int (x + y) :: S) k n H Q := W_s (rfl : (pj lw).1 26 58 = some (.iadd, 1, 0)) rfl rfl rfl
theorem w26_59 {a : Nat} {v : Value} : W (pj lw) 26 59 L (v :: .ref a :: S) k n H Q ↔ ((isOw H a = true ∧ okv (.int) v = true) ∧ W (pj lw) 26 62 L S k n (wr H a 6 v) Q) := W_putf (rfl : (pj lw).1 26 59 = some (.putfield 81, 3, 6))
theorem w26_62 : W (pj lw) 26 62 L [] k n H Q ↔ Q none H := W_r (rfl : (pj lw).1 26 62 = some (.return_, 1, 0)) rfl
theorem c27 {x0 : Nat} {x1 : Int32} : Cl (pj lw) 27 [.ref x0, .int x1] H Q ↔ W (pj lw) 27 0 [.val (.ref x0), .val (.int x1)] [] 0 0 H Q := cl_unf rfl
theorem w27_0 {x : Int32} {l0 : Slot} : W (pj lw) 27 0 (l0 :: .val (.int x) :: L) S k n H Q ↔ W (pj lw) 27 1 (l0 :: .val (.int x) :: L) (.int x :: S) k n H Q := W_s (rfl : (pj lw).1 27 0 = some (.iload_n 1, 1, 0)) rfl rfl rfl
theorem w27_1 {x : Int32} : W (pj lw) 27 1 L (.int x :: S) k n H Q ↔ (if x < 0 then W (pj lw) 27 25 L S k n H Q else W (pj lw) 27 4 L S k n H Q) := W_if_lt (rfl : (pj lw).1 27 1 = some (.ifCond .lt 24, 3, 0)) rfl
theorem w27_4 {x : Int32} {l0 : Slot} : W (pj lw) 27 4 (l0 :: .val (.int x) :: L) S k n H Q ↔ W (pj lw) 27 5 (l0 :: .val (.int x) :: L) (.int x :: S) k n H Q := W_s (rfl : (pj lw).1 27 4 = some (.iload_n 1, 1, 0)) rfl rfl rfl
theorem w27_5 {x : Nat} : W (pj lw) 27 5 (.val (.ref x) :: L) S k n H Q ↔ W (pj lw) 27 6 (.val (.ref x) :: L) (.ref x :: S) k n H Q := W_s (rfl : (pj lw).1 27 5 = some (.aload_n 0, 1, 0)) rfl rfl rfl
theorem w27_6 {a : Nat} : W (pj lw) 27 6 L (.ref a :: S) k n H Q ↔ (isO H a = true ∧ W (pj lw) 27 9 L (fld H a 3 :: S) k n H Q) := W_getf (rfl : (pj lw).1 27 6 = some (.getfield 63, 3, 3))
theorem w27_9 {x y : Int32} : W (pj lw) 27 9 L (.int y :: .int x :: S) k n H Q ↔ (if x < y then W (pj lw) 27 12 L S k n H Q else W (pj lw) 27 25 L S k n H Q) := W_icmp_ge (rfl : (pj lw).1 27 9 = some (.if_icmp .ge 16, 3, 0)) rfl
theorem w27_12 {x : Nat} : W (pj lw) 27 12 (.val (.ref x) :: L) S k n H Q ↔ W (pj lw) 27 13 (.val (.ref x) :: L) (.ref x :: S) k n H Q := W_s (rfl : (pj lw).1 27 12 = some (.aload_n 0, 1, 0)) rfl rfl rfl
theorem w27_13 {x : Nat} : W (pj lw) 27 13 (.val (.ref x) :: L) S k n H Q ↔ W (pj lw) 27 14 (.val (.ref x) :: L) (.ref x :: S) k n H Q := W_s (rfl : (pj lw).1 27 13 = some (.aload_n 0, 1, 0)) rfl rfl rfl
theorem w27_14 {a : Nat} : W (pj lw) 27 14 L (.ref a :: S) k n H Q ↔ (isO H a = true ∧ W (pj lw) 27 17 L (fld H a 2 :: S) k n H Q) := W_getf (rfl : (pj lw).1 27 14 = some (.getfield 7, 3, 2))
theorem w27_17 {x : Int32} {l0 : Slot} : W (pj lw) 27 17 (l0 :: .val (.int x) :: L) S k n H Q ↔ W (pj lw) 27 18 (l0 :: .val (.int x) :: L) (.int x :: S) k n H Q := W_s (rfl : (pj lw).1 27 17 = some (.iload_n 1, 1, 0)) rfl rfl rfl
theorem w27_18 {i : Int32} {a : Nat} : W (pj lw) 27 18 L (.int i :: .ref a :: S) k n H Q ↔ (inA H a .int i = true ∧ W (pj lw) 27 19 L (elt H a i :: S) k n H Q) := W_iaload (rfl : (pj lw).1 27 18 = some (.iaload, 1, 0))
theorem w27_19 {a : Nat} {x0 : Int32} : W (pj lw) 27 19 L (.int x0 :: .ref a :: S) k n H Q ↔ ((isO H a = true ∧ cs S + (2 + 11) + 0 ≤ 13) ∧ Cl (pj lw) 22 [.ref a, .int x0] H (fun v H => W (pj lw) 27 22 L (v.toList ++ S) k n H Q)) := W_inst (as := [.int x0]) (rfl : (pj lw).1 27 19 = some (.invokevirtual 128, 3, 22)) rfl rfl rfl (Nat.le_of_ble_eq_true rfl) (Nat.le_of_ble_eq_true rfl) ⟨rfl, rfl⟩
theorem w27_22 {x : Int32} : W (pj lw) 27 22 L (.int x :: S) k n H Q ↔ (if x = 0 then W (pj lw) 27 25 L S k n H Q else W (pj lw) 27 27 L S k n H Q) := W_if_ne (rfl : (pj lw).1 27 22 = some (.ifCond .ne 5, 3, 0)) rfl
theorem w27_25 {x : Int32} {l0 : Slot} : W (pj lw) 27 25 (l0 :: .val (.int x) :: L) S k n H Q ↔ W (pj lw) 27 26 (l0 :: .val (.int x) :: L) (.int x :: S) k n H Q := W_s (rfl : (pj lw).1 27 25 = some (.iload_n 1, 1, 0)) rfl rfl rfl
theorem w27_26 {x : Int32} : W (pj lw) 27 26 L (.int x :: S) k n H Q ↔ Q (some (.int x)) H := W_r (rfl : (pj lw).1 27 26 = some (.ireturn, 1, 0)) rfl
theorem w27_27 {x : Nat} : W (pj lw) 27 27 (.val (.ref x) :: L) S k n H Q ↔ W (pj lw) 27 28 (.val (.ref x) :: L) (.ref x :: S) k n H Q := W_s (rfl : (pj lw).1 27 27 = some (.aload_n 0, 1, 0)) rfl rfl rfl
theorem w27_28 {a : Nat} : W (pj lw) 27 28 L (.ref a :: S) k n H Q ↔ (isO H a = true ∧ W (pj lw) 27 31 L (fld H a 2 :: S) k n H Q) := W_getf (rfl : (pj lw).1 27 28 = some (.getfield 7, 3, 2))
theorem w27_31 {x : Int32} {l0 : Slot} : W (pj lw) 27 31 (l0 :: .val (.int x) :: L) S k n H Q ↔ W (pj lw) 27 32 (l0 :: .val (.int x) :: L) (.int x :: S) k n H Q := W_s (rfl : (pj lw).1 27 31 = some (.iload_n 1, 1, 0)) rfl rfl rfl
theorem w27_32 {i : Int32} {a : Nat} : W (pj lw) 27 32 L (.int i :: .ref a :: S) k n H Q ↔ (inA H a .int i = true ∧ W (pj lw) 27 33 L (elt H a i :: S) k n H Q) := W_iaload (rfl : (pj lw).1 27 32 = some (.iaload, 1, 0))
theorem w27_33 : W (pj lw) 27 33 L S k n H Q ↔ W (pj lw) 27 35 L (.int 48 :: S) k n H Q := W_s (rfl : (pj lw).1 27 33 = some (.bipush 48, 2, 0)) rfl rfl rfl
theorem w27_35 {x y : Int32} : W (pj lw) 27 35 L (.int y :: .int x :: S) k n H Q ↔ (if x = y then W (pj lw) 27 38 L S k n H Q else W (pj lw) 27 40 L S k n H Q) := W_icmp_ne (rfl : (pj lw).1 27 35 = some (.if_icmp .ne 5, 3, 0)) rfl
theorem w27_38 : W (pj lw) 27 38 L S k n H Q ↔ W (pj lw) 27 39 L (.int (-1) :: S) k n H Q := W_s (rfl : (pj lw).1 27 38 = some (.iconst (-1), 1, 0)) rfl rfl rfl
theorem w27_39 {x : Int32} : W (pj lw) 27 39 L (.int x :: S) k n H Q ↔ Q (some (.int x)) H := W_r (rfl : (pj lw).1 27 39 = some (.ireturn, 1, 0)) rfl
theorem w27_40 {x : Int32} {l0 : Slot} : W (pj lw) 27 40 (l0 :: .val (.int x) :: L) S k n H Q ↔ W (pj lw) 27 41 (l0 :: .val (.int x) :: L) (.int x :: S) k n H Q := W_s (rfl : (pj lw).1 27 40 = some (.iload_n 1, 1, 0)) rfl rfl rfl
theorem w27_41 : W (pj lw) 27 41 L S k n H Q ↔ W (pj lw) 27 42 L (.int 1 :: S) k n H Q := W_s (rfl : (pj lw).1 27 41 = some (.iconst 1, 1, 0)) rfl rfl rfl
theorem w27_42 {x y : Int32} : W (pj lw) 27 42 L (.int y :: .int x :: S) k n H Q ↔ W (pj lw) 27 43 L (.int (x + y) :: S) k n H Q := W_s (rfl : (pj lw).1 27 42 = some (.iadd, 1, 0)) rfl rfl rfl
theorem w27_43 {x : Nat} : W (pj lw) 27 43 (.val (.ref x) :: L) S k n H Q ↔ W (pj lw) 27 44 (.val (.ref x) :: L) (.ref x :: S) k n H Q := W_s (rfl : (pj lw).1 27 43 = some (.aload_n 0, 1, 0)) rfl rfl rfl
theorem w27_44 {a : Nat} : W (pj lw) 27 44 L (.ref a :: S) k n H Q ↔ (isO H a = true ∧ W (pj lw) 27 47 L (fld H a 3 :: S) k n H Q) := W_getf (rfl : (pj lw).1 27 44 = some (.getfield 63, 3, 3))
theorem w27_47 {x y : Int32} : W (pj lw) 27 47 L (.int y :: .int x :: S) k n H Q ↔ (if x < y then W (pj lw) 27 50 L S k n H Q else W (pj lw) 27 96 L S k n H Q) := W_icmp_ge (rfl : (pj lw).1 27 47 = some (.if_icmp .ge 49, 3, 0)) rfl
theorem w27_50 {x : Nat} : W (pj lw) 27 50 (.val (.ref x) :: L) S k n H Q ↔ W (pj lw) 27 51 (.val (.ref x) :: L) (.ref x :: S) k n H Q := W_s (rfl : (pj lw).1 27 50 = some (.aload_n 0, 1, 0)) rfl rfl rfl
theorem w27_51 {x : Nat} : W (pj lw) 27 51 (.val (.ref x) :: L) S k n H Q ↔ W (pj lw) 27 52 (.val (.ref x) :: L) (.ref x :: S) k n H Q := W_s (rfl : (pj lw).1 27 51 = some (.aload_n 0, 1, 0)) rfl rfl rfl
theorem w27_52 {a : Nat} : W (pj lw) 27 52 L (.ref a :: S) k n H Q ↔ (isO H a = true ∧ W (pj lw) 27 55 L (fld H a 2 :: S) k n H Q) := W_getf (rfl : (pj lw).1 27 52 = some (.getfield 7, 3, 2))
theorem w27_55 {x : Int32} {l0 : Slot} : W (pj lw) 27 55 (l0 :: .val (.int x) :: L) S k n H Q ↔ W (pj lw) 27 56 (l0 :: .val (.int x) :: L) (.int x :: S) k n H Q := W_s (rfl : (pj lw).1 27 55 = some (.iload_n 1, 1, 0)) rfl rfl rfl
theorem w27_56 : W (pj lw) 27 56 L S k n H Q ↔ W (pj lw) 27 57 L (.int 1 :: S) k n H Q := W_s (rfl : (pj lw).1 27 56 = some (.iconst 1, 1, 0)) rfl rfl rfl
theorem w27_57 {x y : Int32} : W (pj lw) 27 57 L (.int y :: .int x :: S) k n H Q ↔ W (pj lw) 27 58 L (.int (x + y) :: S) k n H Q := W_s (rfl : (pj lw).1 27 57 = some (.iadd, 1, 0)) rfl rfl rfl
theorem w27_58 {i : Int32} {a : Nat} : W (pj lw) 27 58 L (.int i :: .ref a :: S) k n H Q ↔ (inA H a .int i = true ∧ W (pj lw) 27 59 L (elt H a i :: S) k n H Q) := W_iaload (rfl : (pj lw).1 27 58 = some (.iaload, 1, 0))
theorem w27_59 {a : Nat} {x0 : Int32} : W (pj lw) 27 59 L (.int x0 :: .ref a :: S) k n H Q ↔ ((isO H a = true ∧ cs S + (2 + 11) + 0 ≤ 13) ∧ Cl (pj lw) 22 [.ref a, .int x0] H (fun v H => W (pj lw) 27 62 L (v.toList ++ S) k n H Q)) := W_inst (as := [.int x0]) (rfl : (pj lw).1 27 59 = some (.invokevirtual 128, 3, 22)) rfl rfl rfl (Nat.le_of_ble_eq_true rfl) (Nat.le_of_ble_eq_true rfl) ⟨rfl, rfl⟩
theorem w27_62 {x : Int32} : W (pj lw) 27 62 L (.int x :: S) k n H Q ↔ (if x = 0 then W (pj lw) 27 96 L S k n H Q else W (pj lw) 27 65 L S k n H Q) := W_if_eq (rfl : (pj lw).1 27 62 = some (.ifCond .eq 34, 3, 0)) rfl
theorem w27_65 {x : Int32} {l0 : Slot} : W (pj lw) 27 65 (l0 :: .val (.int x) :: L) S k n H Q ↔ W (pj lw) 27 66 (l0 :: .val (.int x) :: L) (.int x :: S) k n H Q := W_s (rfl : (pj lw).1 27 65 = some (.iload_n 1, 1, 0)) rfl rfl rfl
theorem w27_66 : W (pj lw) 27 66 L S k n H Q ↔ W (pj lw) 27 67 L (.int 2 :: S) k n H Q := W_s (rfl : (pj lw).1 27 66 = some (.iconst 2, 1, 0)) rfl rfl rfl
theorem w27_67 {x y : Int32} : W (pj lw) 27 67 L (.int y :: .int x :: S) k n H Q ↔ W (pj lw) 27 68 L (.int (x + y) :: S) k n H Q := W_s (rfl : (pj lw).1 27 67 = some (.iadd, 1, 0)) rfl rfl rfl
theorem w27_68 {x : Nat} : W (pj lw) 27 68 (.val (.ref x) :: L) S k n H Q ↔ W (pj lw) 27 69 (.val (.ref x) :: L) (.ref x :: S) k n H Q := W_s (rfl : (pj lw).1 27 68 = some (.aload_n 0, 1, 0)) rfl rfl rfl
theorem w27_69 {a : Nat} : W (pj lw) 27 69 L (.ref a :: S) k n H Q ↔ (isO H a = true ∧ W (pj lw) 27 72 L (fld H a 3 :: S) k n H Q) := W_getf (rfl : (pj lw).1 27 69 = some (.getfield 63, 3, 3))
theorem w27_72 {x y : Int32} : W (pj lw) 27 72 L (.int y :: .int x :: S) k n H Q ↔ (if x < y then W (pj lw) 27 75 L S k n H Q else W (pj lw) 27 92 L S k n H Q) := W_icmp_ge (rfl : (pj lw).1 27 72 = some (.if_icmp .ge 20, 3, 0)) rfl
theorem w27_75 {x : Nat} : W (pj lw) 27 75 (.val (.ref x) :: L) S k n H Q ↔ W (pj lw) 27 76 (.val (.ref x) :: L) (.ref x :: S) k n H Q := W_s (rfl : (pj lw).1 27 75 = some (.aload_n 0, 1, 0)) rfl rfl rfl
theorem w27_76 {x : Nat} : W (pj lw) 27 76 (.val (.ref x) :: L) S k n H Q ↔ W (pj lw) 27 77 (.val (.ref x) :: L) (.ref x :: S) k n H Q := W_s (rfl : (pj lw).1 27 76 = some (.aload_n 0, 1, 0)) rfl rfl rfl
theorem w27_77 {a : Nat} : W (pj lw) 27 77 L (.ref a :: S) k n H Q ↔ (isO H a = true ∧ W (pj lw) 27 80 L (fld H a 2 :: S) k n H Q) := W_getf (rfl : (pj lw).1 27 77 = some (.getfield 7, 3, 2))
theorem w27_80 {x : Int32} {l0 : Slot} : W (pj lw) 27 80 (l0 :: .val (.int x) :: L) S k n H Q ↔ W (pj lw) 27 81 (l0 :: .val (.int x) :: L) (.int x :: S) k n H Q := W_s (rfl : (pj lw).1 27 80 = some (.iload_n 1, 1, 0)) rfl rfl rfl
theorem w27_81 : W (pj lw) 27 81 L S k n H Q ↔ W (pj lw) 27 82 L (.int 2 :: S) k n H Q := W_s (rfl : (pj lw).1 27 81 = some (.iconst 2, 1, 0)) rfl rfl rfl
theorem w27_82 {x y : Int32} : W (pj lw) 27 82 L (.int y :: .int x :: S) k n H Q ↔ W (pj lw) 27 83 L (.int (x + y) :: S) k n H Q := W_s (rfl : (pj lw).1 27 82 = some (.iadd, 1, 0)) rfl rfl rfl
theorem w27_83 {i : Int32} {a : Nat} : W (pj lw) 27 83 L (.int i :: .ref a :: S) k n H Q ↔ (inA H a .int i = true ∧ W (pj lw) 27 84 L (elt H a i :: S) k n H Q) := W_iaload (rfl : (pj lw).1 27 83 = some (.iaload, 1, 0))
theorem w27_84 {a : Nat} {x0 : Int32} : W (pj lw) 27 84 L (.int x0 :: .ref a :: S) k n H Q ↔ ((isO H a = true ∧ cs S + (2 + 11) + 0 ≤ 13) ∧ Cl (pj lw) 22 [.ref a, .int x0] H (fun v H => W (pj lw) 27 87 L (v.toList ++ S) k n H Q)) := W_inst (as := [.int x0]) (rfl : (pj lw).1 27 84 = some (.invokevirtual 128, 3, 22)) rfl rfl rfl (Nat.le_of_ble_eq_true rfl) (Nat.le_of_ble_eq_true rfl) ⟨rfl, rfl⟩
theorem w27_87 {x : Int32} : W (pj lw) 27 87 L (.int x :: S) k n H Q ↔ (if x = 0 then W (pj lw) 27 92 L S k n H Q else W (pj lw) 27 90 L S k n H Q) := W_if_eq (rfl : (pj lw).1 27 87 = some (.ifCond .eq 5, 3, 0)) rfl
theorem w27_90 : W (pj lw) 27 90 L S k n H Q ↔ W (pj lw) 27 91 L (.int (-1) :: S) k n H Q := W_s (rfl : (pj lw).1 27 90 = some (.iconst (-1), 1, 0)) rfl rfl rfl
theorem w27_91 {x : Int32} : W (pj lw) 27 91 L (.int x :: S) k n H Q ↔ Q (some (.int x)) H := W_r (rfl : (pj lw).1 27 91 = some (.ireturn, 1, 0)) rfl
theorem w27_92 {x : Int32} {l0 : Slot} : W (pj lw) 27 92 (l0 :: .val (.int x) :: L) S k n H Q ↔ W (pj lw) 27 93 (l0 :: .val (.int x) :: L) (.int x :: S) k n H Q := W_s (rfl : (pj lw).1 27 92 = some (.iload_n 1, 1, 0)) rfl rfl rfl
theorem w27_93 : W (pj lw) 27 93 L S k n H Q ↔ W (pj lw) 27 94 L (.int 2 :: S) k n H Q := W_s (rfl : (pj lw).1 27 93 = some (.iconst 2, 1, 0)) rfl rfl rfl
theorem w27_94 {x y : Int32} : W (pj lw) 27 94 L (.int y :: .int x :: S) k n H Q ↔ W (pj lw) 27 95 L (.int (x + y) :: S) k n H Q := W_s (rfl : (pj lw).1 27 94 = some (.iadd, 1, 0)) rfl rfl rfl
theorem w27_95 {x : Int32} : W (pj lw) 27 95 L (.int x :: S) k n H Q ↔ Q (some (.int x)) H := W_r (rfl : (pj lw).1 27 95 = some (.ireturn, 1, 0)) rfl
theorem w27_96 {x : Int32} {l0 : Slot} : W (pj lw) 27 96 (l0 :: .val (.int x) :: L) S k n H Q ↔ W (pj lw) 27 97 (l0 :: .val (.int x) :: L) (.int x :: S) k n H Q := W_s (rfl : (pj lw).1 27 96 = some (.iload_n 1, 1, 0)) rfl rfl rfl
theorem w27_97 : W (pj lw) 27 97 L S k n H Q ↔ W (pj lw) 27 98 L (.int 1 :: S) k n H Q := W_s (rfl : (pj lw).1 27 97 = some (.iconst 1, 1, 0)) rfl rfl rfl
theorem w27_98 {x y : Int32} : W (pj lw) 27 98 L (.int y :: .int x :: S) k n H Q ↔ W (pj lw) 27 99 L (.int (x + y) :: S) k n H Q := W_s (rfl : (pj lw).1 27 98 = some (.iadd, 1, 0)) rfl rfl rfl
theorem w27_99 {x : Int32} : W (pj lw) 27 99 L (.int x :: S) k n H Q ↔ Q (some (.int x)) H := W_r (rfl : (pj lw).1 27 99 = some (.ireturn, 1, 0)) rfl
theorem c29 {x0 : Nat} : Cl (pj lw) 29 [.ref x0] H Q ↔ W (pj lw) 29 0 [.val (.ref x0), .unset, .unset, .unset, .unset, .unset, .unset, .unset] [] 0 0 H Q := cl_unf rfl
theorem w29_0 : W (pj lw) 29 0 L S k n H Q ↔ W (pj lw) 29 1 L (.int 0 :: S) k n H Q := W_s (rfl : (pj lw).1 29 0 = some (.iconst 0, 1, 0)) rfl rfl rfl
theorem w29_1 {x : Int32} {l0 : Slot} : W (pj lw) 29 1 (l0 :: .unset :: L) (.int x :: S) k n H Q ↔ W (pj lw) 29 2 (l0 :: .val (.int x) :: L) S k n H Q := W_istn (rfl : (pj lw).1 29 1 = some (.istore_n 1, 1, 0)) rfl rfl
theorem w29_2 {x : Int32} {l0 : Slot} : W (pj lw) 29 2 (l0 :: .val (.int x) :: L) S k n H Q ↔ W (pj lw) 29 3 (l0 :: .val (.int x) :: L) (.int x :: S) k n H Q := W_s (rfl : (pj lw).1 29 2 = some (.iload_n 1, 1, 0)) rfl rfl rfl
theorem w29_3 : W (pj lw) 29 3 L S k n H Q ↔ W (pj lw) 29 5 L (.int 48 :: S) k n H Q := W_s (rfl : (pj lw).1 29 3 = some (.bipush 48, 2, 0)) rfl rfl rfl
theorem w29_5 {x y : Int32} : W (pj lw) 29 5 L (.int y :: .int x :: S) k n H Q ↔ (if x < y then W (pj lw) 29 8 L S k n H Q else W (pj lw) 29 21 L S k n H Q) := W_icmp_ge (rfl : (pj lw).1 29 5 = some (.if_icmp .ge 16, 3, 0)) rfl
theorem w29_8 {x : Nat} : W (pj lw) 29 8 (.val (.ref x) :: L) S k n H Q ↔ W (pj lw) 29 9 (.val (.ref x) :: L) (.ref x :: S) k n H Q := W_s (rfl : (pj lw).1 29 8 = some (.aload_n 0, 1, 0)) rfl rfl rfl
theorem w29_9 {a : Nat} : W (pj lw) 29 9 L (.ref a :: S) k n H Q ↔ (isO H a = true ∧ W (pj lw) 29 12 L (fld H a 19 :: S) k n H Q) := W_getf (rfl : (pj lw).1 29 9 = some (.getfield 35, 3, 19))
theorem w29_12 {x : Int32} {l0 : Slot} : W (pj lw) 29 12 (l0 :: .val (.int x) :: L) S k n H Q ↔ W (pj lw) 29 13 (l0 :: .val (.int x) :: L) (.int x :: S) k n H Q := W_s (rfl : (pj lw).1 29 12 = some (.iload_n 1, 1, 0)) rfl rfl rfl
theorem w29_13 : W (pj lw) 29 13 L S k n H Q ↔ W (pj lw) 29 14 L (.long 0 :: S) k n H Q := W_s (rfl : (pj lw).1 29 13 = some (.lconst 0, 1, 0)) rfl rfl rfl
theorem w29_14 {x : Int64} {i : Int32} {a : Nat} : W (pj lw) 29 14 L (.long x :: .int i :: .ref a :: S) k n H Q ↔ (inAw H a .long i = true ∧ W (pj lw) 29 15 L S k n (wr H a i.toNatClampNeg (.long x)) Q) := W_lastore (rfl : (pj lw).1 29 14 = some (.lastore, 1, 0))
theorem w29_15 {x : Int32} {l0 : Slot} : W (pj lw) 29 15 (l0 :: .val (.int x) :: L) S k n H Q ↔ W (pj lw) 29 18 (l0 :: .val (.int (x + 1)) :: L) S k n H Q := W_s (rfl : (pj lw).1 29 15 = some (.iinc 1 1, 3, 0)) rfl rfl rfl
theorem w29_18 : W (pj lw) 29 18 L S k n H Q ↔ W (pj lw) 29 2 L S k n H Q := W_goto (rfl : (pj lw).1 29 18 = some (.goto (-16), 3, 0)) rfl
theorem w29_21 : W (pj lw) 29 21 L S k n H Q ↔ W (pj lw) 29 22 L (.int 0 :: S) k n H Q := W_s (rfl : (pj lw).1 29 21 = some (.iconst 0, 1, 0)) rfl rfl rfl
theorem w29_22i {y : Int32} {x : Int32} {l0 : Slot} : W (pj lw) 29 22 (l0 :: .val (.int y) :: L) (.int x :: S) k n H Q ↔ W (pj lw) 29 23 (l0 :: .val (.int x) :: L) S k n H Q := W_istn (rfl : (pj lw).1 29 22 = some (.istore_n 1, 1, 0)) rfl rfl
theorem w29_23 {x : Int32} {l0 : Slot} : W (pj lw) 29 23 (l0 :: .val (.int x) :: L) S k n H Q ↔ W (pj lw) 29 24 (l0 :: .val (.int x) :: L) (.int x :: S) k n H Q := W_s (rfl : (pj lw).1 29 23 = some (.iload_n 1, 1, 0)) rfl rfl rfl
theorem w29_24 : W (pj lw) 29 24 L S k n H Q ↔ W (pj lw) 29 26 L (.int 40 :: S) k n H Q := W_s (rfl : (pj lw).1 29 24 = some (.bipush 40, 2, 0)) rfl rfl rfl
theorem w29_26 {x y : Int32} : W (pj lw) 29 26 L (.int y :: .int x :: S) k n H Q ↔ (if x < y then W (pj lw) 29 29 L S k n H Q else W (pj lw) 29 42 L S k n H Q) := W_icmp_ge (rfl : (pj lw).1 29 26 = some (.if_icmp .ge 16, 3, 0)) rfl
theorem w29_29 {x : Nat} : W (pj lw) 29 29 (.val (.ref x) :: L) S k n H Q ↔ W (pj lw) 29 30 (.val (.ref x) :: L) (.ref x :: S) k n H Q := W_s (rfl : (pj lw).1 29 29 = some (.aload_n 0, 1, 0)) rfl rfl rfl
theorem w29_30 {a : Nat} : W (pj lw) 29 30 L (.ref a :: S) k n H Q ↔ (isO H a = true ∧ W (pj lw) 29 33 L (fld H a 20 :: S) k n H Q) := W_getf (rfl : (pj lw).1 29 30 = some (.getfield 38, 3, 20))
theorem w29_33 {x : Int32} {l0 : Slot} : W (pj lw) 29 33 (l0 :: .val (.int x) :: L) S k n H Q ↔ W (pj lw) 29 34 (l0 :: .val (.int x) :: L) (.int x :: S) k n H Q := W_s (rfl : (pj lw).1 29 33 = some (.iload_n 1, 1, 0)) rfl rfl rfl
theorem w29_34 : W (pj lw) 29 34 L S k n H Q ↔ W (pj lw) 29 35 L (.long 0 :: S) k n H Q := W_s (rfl : (pj lw).1 29 34 = some (.lconst 0, 1, 0)) rfl rfl rfl
theorem w29_35 {x : Int64} {i : Int32} {a : Nat} : W (pj lw) 29 35 L (.long x :: .int i :: .ref a :: S) k n H Q ↔ (inAw H a .long i = true ∧ W (pj lw) 29 36 L S k n (wr H a i.toNatClampNeg (.long x)) Q) := W_lastore (rfl : (pj lw).1 29 35 = some (.lastore, 1, 0))
theorem w29_36 {x : Int32} {l0 : Slot} : W (pj lw) 29 36 (l0 :: .val (.int x) :: L) S k n H Q ↔ W (pj lw) 29 39 (l0 :: .val (.int (x + 1)) :: L) S k n H Q := W_s (rfl : (pj lw).1 29 36 = some (.iinc 1 1, 3, 0)) rfl rfl rfl
theorem w29_39 : W (pj lw) 29 39 L S k n H Q ↔ W (pj lw) 29 23 L S k n H Q := W_goto (rfl : (pj lw).1 29 39 = some (.goto (-16), 3, 0)) rfl
theorem w29_42 : W (pj lw) 29 42 L S k n H Q ↔ W (pj lw) 29 43 L (.int 0 :: S) k n H Q := W_s (rfl : (pj lw).1 29 42 = some (.iconst 0, 1, 0)) rfl rfl rfl
theorem w29_43i {y : Int32} {x : Int32} {l0 : Slot} : W (pj lw) 29 43 (l0 :: .val (.int y) :: L) (.int x :: S) k n H Q ↔ W (pj lw) 29 44 (l0 :: .val (.int x) :: L) S k n H Q := W_istn (rfl : (pj lw).1 29 43 = some (.istore_n 1, 1, 0)) rfl rfl
theorem w29_44 {x : Int32} {l0 : Slot} : W (pj lw) 29 44 (l0 :: .val (.int x) :: L) S k n H Q ↔ W (pj lw) 29 45 (l0 :: .val (.int x) :: L) (.int x :: S) k n H Q := W_s (rfl : (pj lw).1 29 44 = some (.iload_n 1, 1, 0)) rfl rfl rfl
theorem w29_45 : W (pj lw) 29 45 L S k n H Q ↔ W (pj lw) 29 47 L (.int 6 :: S) k n H Q := W_s (rfl : (pj lw).1 29 45 = some (.bipush 6, 2, 0)) rfl rfl rfl
theorem w29_47 {x y : Int32} : W (pj lw) 29 47 L (.int y :: .int x :: S) k n H Q ↔ (if x < y then W (pj lw) 29 50 L S k n H Q else W (pj lw) 29 63 L S k n H Q) := W_icmp_ge (rfl : (pj lw).1 29 47 = some (.if_icmp .ge 16, 3, 0)) rfl
theorem w29_50 {x : Nat} : W (pj lw) 29 50 (.val (.ref x) :: L) S k n H Q ↔ W (pj lw) 29 51 (.val (.ref x) :: L) (.ref x :: S) k n H Q := W_s (rfl : (pj lw).1 29 50 = some (.aload_n 0, 1, 0)) rfl rfl rfl
theorem w29_51 {a : Nat} : W (pj lw) 29 51 L (.ref a :: S) k n H Q ↔ (isO H a = true ∧ W (pj lw) 29 54 L (fld H a 16 :: S) k n H Q) := W_getf (rfl : (pj lw).1 29 51 = some (.getfield 25, 3, 16))
theorem w29_54 {x : Int32} {l0 : Slot} : W (pj lw) 29 54 (l0 :: .val (.int x) :: L) S k n H Q ↔ W (pj lw) 29 55 (l0 :: .val (.int x) :: L) (.int x :: S) k n H Q := W_s (rfl : (pj lw).1 29 54 = some (.iload_n 1, 1, 0)) rfl rfl rfl
theorem w29_55 : W (pj lw) 29 55 L S k n H Q ↔ W (pj lw) 29 56 L (.int 0 :: S) k n H Q := W_s (rfl : (pj lw).1 29 55 = some (.iconst 0, 1, 0)) rfl rfl rfl
theorem w29_56 {x i : Int32} {a : Nat} : W (pj lw) 29 56 L (.int x :: .int i :: .ref a :: S) k n H Q ↔ (inAw H a .int i = true ∧ W (pj lw) 29 57 L S k n (wr H a i.toNatClampNeg (.int x)) Q) := W_iastore (rfl : (pj lw).1 29 56 = some (.iastore, 1, 0))
theorem w29_57 {x : Int32} {l0 : Slot} : W (pj lw) 29 57 (l0 :: .val (.int x) :: L) S k n H Q ↔ W (pj lw) 29 60 (l0 :: .val (.int (x + 1)) :: L) S k n H Q := W_s (rfl : (pj lw).1 29 57 = some (.iinc 1 1, 3, 0)) rfl rfl rfl
theorem w29_60 : W (pj lw) 29 60 L S k n H Q ↔ W (pj lw) 29 44 L S k n H Q := W_goto (rfl : (pj lw).1 29 60 = some (.goto (-16), 3, 0)) rfl
theorem w29_63 : W (pj lw) 29 63 L S k n H Q ↔ W (pj lw) 29 64 L (.int 0 :: S) k n H Q := W_s (rfl : (pj lw).1 29 63 = some (.iconst 0, 1, 0)) rfl rfl rfl
theorem w29_64i {y : Int32} {x : Int32} {l0 : Slot} : W (pj lw) 29 64 (l0 :: .val (.int y) :: L) (.int x :: S) k n H Q ↔ W (pj lw) 29 65 (l0 :: .val (.int x) :: L) S k n H Q := W_istn (rfl : (pj lw).1 29 64 = some (.istore_n 1, 1, 0)) rfl rfl
theorem w29_65 : W (pj lw) 29 65 L S k n H Q ↔ W (pj lw) 29 66 L (.int 0 :: S) k n H Q := W_s (rfl : (pj lw).1 29 65 = some (.iconst 0, 1, 0)) rfl rfl rfl
theorem w29_66 {x : Int32} {l0 l1 : Slot} : W (pj lw) 29 66 (l0 :: l1 :: .unset :: L) (.int x :: S) k n H Q ↔ W (pj lw) 29 67 (l0 :: l1 :: .val (.int x) :: L) S k n H Q := W_istn (rfl : (pj lw).1 29 66 = some (.istore_n 2, 1, 0)) rfl rfl
theorem w29_67 : W (pj lw) 29 67 L S k n H Q ↔ W (pj lw) 29 68 L (.int 0 :: S) k n H Q := W_s (rfl : (pj lw).1 29 67 = some (.iconst 0, 1, 0)) rfl rfl rfl
theorem w29_68 {x : Int32} {l0 l1 l2 : Slot} : W (pj lw) 29 68 (l0 :: l1 :: l2 :: .unset :: L) (.int x :: S) k n H Q ↔ W (pj lw) 29 69 (l0 :: l1 :: l2 :: .val (.int x) :: L) S k n H Q := W_istn (rfl : (pj lw).1 29 68 = some (.istore_n 3, 1, 0)) rfl rfl
theorem w29_69 : W (pj lw) 29 69 L S k n H Q ↔ W (pj lw) 29 70 L (.long 1 :: S) k n H Q := W_s (rfl : (pj lw).1 29 69 = some (.lconst 1, 1, 0)) rfl rfl rfl
theorem w29_70uu {x : Int64} {l0 l1 l2 l3 : Slot} : W (pj lw) 29 70 (l0 :: l1 :: l2 :: l3 :: .unset :: .unset :: L) (.long x :: S) k n H Q ↔ W (pj lw) 29 72 (l0 :: l1 :: l2 :: l3 :: .val (.long x) :: .second :: L) S k n H Q := W_lst (rfl : (pj lw).1 29 70 = some (.lstore 4, 2, 0)) rfl rfl rfl rfl
theorem w29_72 : W (pj lw) 29 72 L S k n H Q ↔ W (pj lw) 29 73 L (.int 0 :: S) k n H Q := W_s (rfl : (pj lw).1 29 72 = some (.iconst 0, 1, 0)) rfl rfl rfl
theorem w29_73 {x : Int32} {l0 l1 l2 l3 l4 l5 : Slot} : W (pj lw) 29 73 (l0 :: l1 :: l2 :: l3 :: l4 :: l5 :: .unset :: L) (.int x :: S) k n H Q ↔ W (pj lw) 29 75 (l0 :: l1 :: l2 :: l3 :: l4 :: l5 :: .val (.int x) :: L) S k n H Q := W_ist (rfl : (pj lw).1 29 73 = some (.istore 6, 2, 0)) rfl rfl
theorem w29_75 {x : Int32} {l0 l1 l2 l3 l4 l5 : Slot} : W (pj lw) 29 75 (l0 :: l1 :: l2 :: l3 :: l4 :: l5 :: .val (.int x) :: L) S k n H Q ↔ W (pj lw) 29 77 (l0 :: l1 :: l2 :: l3 :: l4 :: l5 :: .val (.int x) :: L) (.int x :: S) k n H Q := W_s (rfl : (pj lw).1 29 75 = some (.iload 6, 2, 0)) rfl rfl rfl
theorem w29_77 : W (pj lw) 29 77 L S k n H Q ↔ W (pj lw) 29 79 L (.int 97 :: S) k n H Q := W_s (rfl : (pj lw).1 29 77 = some (.bipush 97, 2, 0)) rfl rfl rfl
theorem w29_79 {x y : Int32} : W (pj lw) 29 79 L (.int y :: .int x :: S) k n H Q ↔ (if x < y then W (pj lw) 29 82 L S k n H Q else W (pj lw) 29 247 L S k n H Q) := W_icmp_ge (rfl : (pj lw).1 29 79 = some (.if_icmp .ge 168, 3, 0)) rfl
theorem w29_82 {x : Int32} {l0 : Slot} : W (pj lw) 29 82 (l0 :: .val (.int x) :: L) S k n H Q ↔ W (pj lw) 29 83 (l0 :: .val (.int x) :: L) (.int x :: S) k n H Q := W_s (rfl : (pj lw).1 29 82 = some (.iload_n 1, 1, 0)) rfl rfl rfl
theorem w29_83 {x : Nat} : W (pj lw) 29 83 (.val (.ref x) :: L) S k n H Q ↔ W (pj lw) 29 84 (.val (.ref x) :: L) (.ref x :: S) k n H Q := W_s (rfl : (pj lw).1 29 83 = some (.aload_n 0, 1, 0)) rfl rfl rfl
theorem w29_84 {a : Nat} : W (pj lw) 29 84 L (.ref a :: S) k n H Q ↔ (isO H a = true ∧ W (pj lw) 29 87 L (fld H a 3 :: S) k n H Q) := W_getf (rfl : (pj lw).1 29 84 = some (.getfield 63, 3, 3))
theorem w29_87 {x y : Int32} : W (pj lw) 29 87 L (.int y :: .int x :: S) k n H Q ↔ (if x < y then W (pj lw) 29 90 L S k n H Q else W (pj lw) 29 247 L S k n H Q) := W_icmp_ge (rfl : (pj lw).1 29 87 = some (.if_icmp .ge 160, 3, 0)) rfl
theorem w29_90 {x : Nat} : W (pj lw) 29 90 (.val (.ref x) :: L) S k n H Q ↔ W (pj lw) 29 91 (.val (.ref x) :: L) (.ref x :: S) k n H Q := W_s (rfl : (pj lw).1 29 90 = some (.aload_n 0, 1, 0)) rfl rfl rfl
theorem w29_91 {a : Nat} : W (pj lw) 29 91 L (.ref a :: S) k n H Q ↔ (isO H a = true ∧ W (pj lw) 29 94 L (fld H a 2 :: S) k n H Q) := W_getf (rfl : (pj lw).1 29 91 = some (.getfield 7, 3, 2))
theorem w29_94 {x : Int32} {l0 : Slot} : W (pj lw) 29 94 (l0 :: .val (.int x) :: L) S k n H Q ↔ W (pj lw) 29 95 (l0 :: .val (.int x) :: L) (.int x :: S) k n H Q := W_s (rfl : (pj lw).1 29 94 = some (.iload_n 1, 1, 0)) rfl rfl rfl
theorem w29_95 {i : Int32} {a : Nat} : W (pj lw) 29 95 L (.int i :: .ref a :: S) k n H Q ↔ (inA H a .int i = true ∧ W (pj lw) 29 96 L (elt H a i :: S) k n H Q) := W_iaload (rfl : (pj lw).1 29 95 = some (.iaload, 1, 0))
theorem w29_96i {y : Int32} {x : Int32} {l0 l1 l2 l3 l4 l5 l6 : Slot} : W (pj lw) 29 96 (l0 :: l1 :: l2 :: l3 :: l4 :: l5 :: l6 :: .val (.int y) :: L) (.int x :: S) k n H Q ↔ W (pj lw) 29 98 (l0 :: l1 :: l2 :: l3 :: l4 :: l5 :: l6 :: .val (.int x) :: L) S k n H Q := W_ist (rfl : (pj lw).1 29 96 = some (.istore 7, 2, 0)) rfl rfl
theorem w29_96 {x : Int32} {l0 l1 l2 l3 l4 l5 l6 : Slot} : W (pj lw) 29 96 (l0 :: l1 :: l2 :: l3 :: l4 :: l5 :: l6 :: .unset :: L) (.int x :: S) k n H Q ↔ W (pj lw) 29 98 (l0 :: l1 :: l2 :: l3 :: l4 :: l5 :: l6 :: .val (.int x) :: L) S k n H Q := W_ist (rfl : (pj lw).1 29 96 = some (.istore 7, 2, 0)) rfl rfl
theorem w29_98 {x : Nat} : W (pj lw) 29 98 (.val (.ref x) :: L) S k n H Q ↔ W (pj lw) 29 99 (.val (.ref x) :: L) (.ref x :: S) k n H Q := W_s (rfl : (pj lw).1 29 98 = some (.aload_n 0, 1, 0)) rfl rfl rfl
theorem w29_99 {x : Int32} {l0 l1 l2 l3 l4 l5 l6 : Slot} : W (pj lw) 29 99 (l0 :: l1 :: l2 :: l3 :: l4 :: l5 :: l6 :: .val (.int x) :: L) S k n H Q ↔ W (pj lw) 29 101 (l0 :: l1 :: l2 :: l3 :: l4 :: l5 :: l6 :: .val (.int x) :: L) (.int x :: S) k n H Q := W_s (rfl : (pj lw).1 29 99 = some (.iload 7, 2, 0)) rfl rfl rfl
theorem w29_101 {a : Nat} {x0 : Int32} : W (pj lw) 29 101 L (.int x0 :: .ref a :: S) k n H Q ↔ ((isO H a = true ∧ cs S + (2 + 11) + 0 ≤ 46) ∧ Cl (pj lw) 20 [.ref a, .int x0] H (fun v H => W (pj lw) 29 104 L (v.toList ++ S) k n H Q)) := W_inst (as := [.int x0]) (rfl : (pj lw).1 29 101 = some (.invokevirtual 122, 3, 20)) rfl rfl rfl (Nat.le_of_ble_eq_true rfl) (Nat.le_of_ble_eq_true rfl) ⟨rfl, rfl⟩
theorem w29_104 {x : Int32} : W (pj lw) 29 104 L (.int x :: S) k n H Q ↔ (if x = 0 then W (pj lw) 29 117 L S k n H Q else W (pj lw) 29 107 L S k n H Q) := W_if_eq (rfl : (pj lw).1 29 104 = some (.ifCond .eq 13, 3, 0)) rfl
theorem w29_107 {x : Nat} : W (pj lw) 29 107 (.val (.ref x) :: L) S k n H Q ↔ W (pj lw) 29 108 (.val (.ref x) :: L) (.ref x :: S) k n H Q := W_s (rfl : (pj lw).1 29 107 = some (.aload_n 0, 1, 0)) rfl rfl rfl
theorem w29_108 {x : Int32} {l0 : Slot} : W (pj lw) 29 108 (l0 :: .val (.int x) :: L) S k n H Q ↔ W (pj lw) 29 109 (l0 :: .val (.int x) :: L) (.int x :: S) k n H Q := W_s (rfl : (pj lw).1 29 108 = some (.iload_n 1, 1, 0)) rfl rfl rfl
theorem w29_109 {x : Int32} {l0 l1 l2 : Slot} : W (pj lw) 29 109 (l0 :: l1 :: l2 :: .val (.int x) :: L) S k n H Q ↔ W (pj lw) 29 110 (l0 :: l1 :: l2 :: .val (.int x) :: L) (.int x :: S) k n H Q := W_s (rfl : (pj lw).1 29 109 = some (.iload_n 3, 1, 0)) rfl rfl rfl
theorem w29_110 {a : Nat} {x0 : Int32} {x1 : Int32} : W (pj lw) 29 110 L (.int x1 :: .int x0 :: .ref a :: S) k n H Q ↔ ((isO H a = true ∧ cs S + (7 + 11) + 28 ≤ 46) ∧ Cl (pj lw) 30 [.ref a, .int x0, .int x1] H (fun v H => W (pj lw) 29 113 L (v.toList ++ S) k n H Q)) := W_inst (as := [.int x0, .int x1]) (rfl : (pj lw).1 29 110 = some (.invokevirtual 145, 3, 30)) rfl rfl rfl (Nat.le_of_ble_eq_true rfl) (Nat.le_of_ble_eq_true rfl) ⟨rfl, rfl⟩
theorem w29_113i {y : Int32} {x : Int32} {l0 : Slot} : W (pj lw) 29 113 (l0 :: .val (.int y) :: L) (.int x :: S) k n H Q ↔ W (pj lw) 29 114 (l0 :: .val (.int x) :: L) S k n H Q := W_istn (rfl : (pj lw).1 29 113 = some (.istore_n 1, 1, 0)) rfl rfl
theorem w29_114 : W (pj lw) 29 114 L S k n H Q ↔ W (pj lw) 29 241 L S k n H Q := W_goto (rfl : (pj lw).1 29 114 = some (.goto 127, 3, 0)) rfl
theorem w29_117 {x : Int32} {l0 l1 l2 l3 l4 l5 l6 : Slot} : W (pj lw) 29 117 (l0 :: l1 :: l2 :: l3 :: l4 :: l5 :: l6 :: .val (.int x) :: L) S k n H Q ↔ W (pj lw) 29 119 (l0 :: l1 :: l2 :: l3 :: l4 :: l5 :: l6 :: .val (.int x) :: L) (.int x :: S) k n H Q := W_s (rfl : (pj lw).1 29 117 = some (.iload 7, 2, 0)) rfl rfl rfl
theorem w29_119 : W (pj lw) 29 119 L S k n H Q ↔ W (pj lw) 29 121 L (.int 40 :: S) k n H Q := W_s (rfl : (pj lw).1 29 119 = some (.bipush 40, 2, 0)) rfl rfl rfl
theorem w29_121 {x y : Int32} : W (pj lw) 29 121 L (.int y :: .int x :: S) k n H Q ↔ (if x = y then W (pj lw) 29 131 L S k n H Q else W (pj lw) 29 124 L S k n H Q) := W_icmp_eq (rfl : (pj lw).1 29 121 = some (.if_icmp .eq 10, 3, 0)) rfl
theorem w29_124 {x : Int32} {l0 l1 l2 l3 l4 l5 l6 : Slot} : W (pj lw) 29 124 (l0 :: l1 :: l2 :: l3 :: l4 :: l5 :: l6 :: .val (.int x) :: L) S k n H Q ↔ W (pj lw) 29 126 (l0 :: l1 :: l2 :: l3 :: l4 :: l5 :: l6 :: .val (.int x) :: L) (.int x :: S) k n H Q := W_s (rfl : (pj lw).1 29 124 = some (.iload 7, 2, 0)) rfl rfl rfl
theorem w29_126 : W (pj lw) 29 126 L S k n H Q ↔ W (pj lw) 29 128 L (.int 91 :: S) k n H Q := W_s (rfl : (pj lw).1 29 126 = some (.bipush 91, 2, 0)) rfl rfl rfl
theorem w29_128 {x y : Int32} : W (pj lw) 29 128 L (.int y :: .int x :: S) k n H Q ↔ (if x = y then W (pj lw) 29 131 L S k n H Q else W (pj lw) 29 145 L S k n H Q) := W_icmp_ne (rfl : (pj lw).1 29 128 = some (.if_icmp .ne 17, 3, 0)) rfl
theorem w29_131 {x : Int32} {l0 l1 l2 : Slot} : W (pj lw) 29 131 (l0 :: l1 :: l2 :: .val (.int x) :: L) S k n H Q ↔ W (pj lw) 29 132 (l0 :: l1 :: l2 :: .val (.int x) :: L) (.int x :: S) k n H Q := W_s (rfl : (pj lw).1 29 131 = some (.iload_n 3, 1, 0)) rfl rfl rfl
theorem w29_132 : W (pj lw) 29 132 L S k n H Q ↔ W (pj lw) 29 133 L (.int 4 :: S) k n H Q := W_s (rfl : (pj lw).1 29 132 = some (.iconst 4, 1, 0)) rfl rfl rfl
theorem w29_133 {x y : Int32} : W (pj lw) 29 133 L (.int y :: .int x :: S) k n H Q ↔ (if x < y then W (pj lw) 29 136 L S k n H Q else W (pj lw) 29 139 L S k n H Q) := W_icmp_ge (rfl : (pj lw).1 29 133 = some (.if_icmp .ge 6, 3, 0)) rfl
theorem w29_136 {x : Int32} {l0 l1 l2 : Slot} : W (pj lw) 29 136 (l0 :: l1 :: l2 :: .val (.int x) :: L) S k n H Q ↔ W (pj lw) 29 139 (l0 :: l1 :: l2 :: .val (.int (x + 1)) :: L) S k n H Q := W_s (rfl : (pj lw).1 29 136 = some (.iinc 3 1, 3, 0)) rfl rfl rfl
theorem w29_139 {x : Int32} {l0 : Slot} : W (pj lw) 29 139 (l0 :: .val (.int x) :: L) S k n H Q ↔ W (pj lw) 29 142 (l0 :: .val (.int (x + 1)) :: L) S k n H Q := W_s (rfl : (pj lw).1 29 139 = some (.iinc 1 1, 3, 0)) rfl rfl rfl
theorem w29_142 : W (pj lw) 29 142 L S k n H Q ↔ W (pj lw) 29 241 L S k n H Q := W_goto (rfl : (pj lw).1 29 142 = some (.goto 99, 3, 0)) rfl
theorem w29_145 {x : Int32} {l0 l1 l2 l3 l4 l5 l6 : Slot} : W (pj lw) 29 145 (l0 :: l1 :: l2 :: l3 :: l4 :: l5 :: l6 :: .val (.int x) :: L) S k n H Q ↔ W (pj lw) 29 147 (l0 :: l1 :: l2 :: l3 :: l4 :: l5 :: l6 :: .val (.int x) :: L) (.int x :: S) k n H Q := W_s (rfl : (pj lw).1 29 145 = some (.iload 7, 2, 0)) rfl rfl rfl
theorem w29_147 : W (pj lw) 29 147 L S k n H Q ↔ W (pj lw) 29 149 L (.int 41 :: S) k n H Q := W_s (rfl : (pj lw).1 29 147 = some (.bipush 41, 2, 0)) rfl rfl rfl
theorem w29_149 {x y : Int32} : W (pj lw) 29 149 L (.int y :: .int x :: S) k n H Q ↔ (if x = y then W (pj lw) 29 159 L S k n H Q else W (pj lw) 29 152 L S k n H Q) := W_icmp_eq (rfl : (pj lw).1 29 149 = some (.if_icmp .eq 10, 3, 0)) rfl
theorem w29_152 {x : Int32} {l0 l1 l2 l3 l4 l5 l6 : Slot} : W (pj lw) 29 152 (l0 :: l1 :: l2 :: l3 :: l4 :: l5 :: l6 :: .val (.int x) :: L) S k n H Q ↔ W (pj lw) 29 154 (l0 :: l1 :: l2 :: l3 :: l4 :: l5 :: l6 :: .val (.int x) :: L) (.int x :: S) k n H Q := W_s (rfl : (pj lw).1 29 152 = some (.iload 7, 2, 0)) rfl rfl rfl
theorem w29_154 : W (pj lw) 29 154 L S k n H Q ↔ W (pj lw) 29 156 L (.int 93 :: S) k n H Q := W_s (rfl : (pj lw).1 29 154 = some (.bipush 93, 2, 0)) rfl rfl rfl
theorem w29_156 {x y : Int32} : W (pj lw) 29 156 L (.int y :: .int x :: S) k n H Q ↔ (if x = y then W (pj lw) 29 159 L S k n H Q else W (pj lw) 29 176 L S k n H Q) := W_icmp_ne (rfl : (pj lw).1 29 156 = some (.if_icmp .ne 20, 3, 0)) rfl
theorem w29_159 {x : Nat} : W (pj lw) 29 159 (.val (.ref x) :: L) S k n H Q ↔ W (pj lw) 29 160 (.val (.ref x) :: L) (.ref x :: S) k n H Q := W_s (rfl : (pj lw).1 29 159 = some (.aload_n 0, 1, 0)) rfl rfl rfl
theorem w29_160 {x : Int32} {l0 : Slot} : W (pj lw) 29 160 (l0 :: .val (.int x) :: L) S k n H Q ↔ W (pj lw) 29 161 (l0 :: .val (.int x) :: L) (.int x :: S) k n H Q := W_s (rfl : (pj lw).1 29 160 = some (.iload_n 1, 1, 0)) rfl rfl rfl
theorem w29_161 {x : Int32} {l0 l1 l2 : Slot} : W (pj lw) 29 161 (l0 :: l1 :: l2 :: .val (.int x) :: L) S k n H Q ↔ W (pj lw) 29 162 (l0 :: l1 :: l2 :: .val (.int x) :: L) (.int x :: S) k n H Q := W_s (rfl : (pj lw).1 29 161 = some (.iload_n 3, 1, 0)) rfl rfl rfl
theorem w29_176 {x : Int32} {l0 l1 l2 l3 l4 l5 l6 : Slot} : W (pj lw) 29 176 (l0 :: l1 :: l2 :: l3 :: l4 :: l5 :: l6 :: .val (.int x) :: L) S k n H Q ↔ W (pj lw) 29 178 (l0 :: l1 :: l2 :: l3 :: l4 :: l5 :: l6 :: .val (.int x) :: L) (.int x :: S) k n H Q := W_s (rfl : (pj lw).1 29 176 = some (.iload 7, 2, 0)) rfl rfl rfl
theorem w29_178 : W (pj lw) 29 178 L S k n H Q ↔ W (pj lw) 29 180 L (.int 46 :: S) k n H Q := W_s (rfl : (pj lw).1 29 178 = some (.bipush 46, 2, 0)) rfl rfl rfl
theorem w29_180 {x y : Int32} : W (pj lw) 29 180 L (.int y :: .int x :: S) k n H Q ↔ (if x = y then W (pj lw) 29 183 L S k n H Q else W (pj lw) 29 208 L S k n H Q) := W_icmp_ne (rfl : (pj lw).1 29 180 = some (.if_icmp .ne 28, 3, 0)) rfl
theorem w29_183 {x : Nat} : W (pj lw) 29 183 (.val (.ref x) :: L) S k n H Q ↔ W (pj lw) 29 184 (.val (.ref x) :: L) (.ref x :: S) k n H Q := W_s (rfl : (pj lw).1 29 183 = some (.aload_n 0, 1, 0)) rfl rfl rfl
theorem w29_184 {x : Int32} {l0 l1 : Slot} : W (pj lw) 29 184 (l0 :: l1 :: .val (.int x) :: L) S k n H Q ↔ W (pj lw) 29 185 (l0 :: l1 :: .val (.int x) :: L) (.int x :: S) k n H Q := W_s (rfl : (pj lw).1 29 184 = some (.iload_n 2, 1, 0)) rfl rfl rfl
theorem w29_185 {x : Int64} {l0 l1 l2 l3 : Slot} : W (pj lw) 29 185 (l0 :: l1 :: l2 :: l3 :: .val (.long x) :: L) S k n H Q ↔ W (pj lw) 29 187 (l0 :: l1 :: l2 :: l3 :: .val (.long x) :: L) (.long x :: S) k n H Q := W_s (rfl : (pj lw).1 29 185 = some (.lload 4, 2, 0)) rfl rfl rfl
theorem w29_187 {a : Nat} {x0 : Int32} {x1 : Int64} : W (pj lw) 29 187 L (.long x1 :: .int x0 :: .ref a :: S) k n H Q ↔ ((isO H a = true ∧ cs S + (5 + 11) + 0 ≤ 46) ∧ Cl (pj lw) 33 [.ref a, .int x0, .long x1] H (fun v H => W (pj lw) 29 190 L (v.toList ++ S) k n H Q)) := W_inst (as := [.int x0, .long x1]) (rfl : (pj lw).1 29 187 = some (.invokevirtual 151, 3, 33)) rfl rfl rfl (Nat.le_of_ble_eq_true rfl) (Nat.le_of_ble_eq_true rfl) ⟨rfl, rfl⟩
theorem w29_190 {x : Nat} : W (pj lw) 29 190 (.val (.ref x) :: L) S k n H Q ↔ W (pj lw) 29 191 (.val (.ref x) :: L) (.ref x :: S) k n H Q := W_s (rfl : (pj lw).1 29 190 = some (.aload_n 0, 1, 0)) rfl rfl rfl
theorem w29_191 {x : Int32} {l0 : Slot} : W (pj lw) 29 191 (l0 :: .val (.int x) :: L) S k n H Q ↔ W (pj lw) 29 192 (l0 :: .val (.int x) :: L) (.int x :: S) k n H Q := W_s (rfl : (pj lw).1 29 191 = some (.iload_n 1, 1, 0)) rfl rfl rfl
theorem w29_192 : W (pj lw) 29 192 L S k n H Q ↔ W (pj lw) 29 193 L (.int 1 :: S) k n H Q := W_s (rfl : (pj lw).1 29 192 = some (.iconst 1, 1, 0)) rfl rfl rfl
theorem w29_193 {x y : Int32} : W (pj lw) 29 193 L (.int y :: .int x :: S) k n H Q ↔ W (pj lw) 29 194 L (.int (x + y) :: S) k n H Q := W_s (rfl : (pj lw).1 29 193 = some (.iadd, 1, 0)) rfl rfl rfl
theorem w29_194 {a : Nat} {x0 : Int32} : W (pj lw) 29 194 L (.int x0 :: .ref a :: S) k n H Q ↔ ((isO H a = true ∧ cs S + (4 + 11) + 13 ≤ 46) ∧ Cl (pj lw) 34 [.ref a, .int x0] H (fun v H => W (pj lw) 29 197 L (v.toList ++ S) k n H Q)) := W_inst (as := [.int x0]) (rfl : (pj lw).1 29 194 = some (.invokevirtual 155, 3, 34)) rfl rfl rfl (Nat.le_of_ble_eq_true rfl) (Nat.le_of_ble_eq_true rfl) ⟨rfl, rfl⟩
theorem w29_197 {x : Int32} : W (pj lw) 29 197 L (.int x :: S) k n H Q ↔ W (pj lw) 29 198 L (.long x.toInt64 :: S) k n H Q := W_s (rfl : (pj lw).1 29 197 = some (.i2l, 1, 0)) rfl rfl rfl
theorem w29_198j {x y : Int64} {l0 l1 l2 l3 : Slot} : W (pj lw) 29 198 (l0 :: l1 :: l2 :: l3 :: .val (.long y) :: .second :: L) (.long x :: S) k n H Q ↔ W (pj lw) 29 200 (l0 :: l1 :: l2 :: l3 :: .val (.long x) :: .second :: L) S k n H Q := W_lst' (rfl : (pj lw).1 29 198 = some (.lstore 4, 2, 0)) rfl rfl
theorem w29_200 {x : Nat} : W (pj lw) 29 200 (.val (.ref x) :: L) S k n H Q ↔ W (pj lw) 29 201 (.val (.ref x) :: L) (.ref x :: S) k n H Q := W_s (rfl : (pj lw).1 29 200 = some (.aload_n 0, 1, 0)) rfl rfl rfl
theorem w29_201 {a : Nat} : W (pj lw) 29 201 L (.ref a :: S) k n H Q ↔ (isO H a = true ∧ W (pj lw) 29 204 L (fld H a 9 :: S) k n H Q) := W_getf (rfl : (pj lw).1 29 201 = some (.getfield 158, 3, 9))
theorem w29_204i {y : Int32} {x : Int32} {l0 : Slot} : W (pj lw) 29 204 (l0 :: .val (.int y) :: L) (.int x :: S) k n H Q ↔ W (pj lw) 29 205 (l0 :: .val (.int x) :: L) S k n H Q := W_istn (rfl : (pj lw).1 29 204 = some (.istore_n 1, 1, 0)) rfl rfl
theorem w29_205 : W (pj lw) 29 205 L S k n H Q ↔ W (pj lw) 29 241 L S k n H Q := W_goto (rfl : (pj lw).1 29 205 = some (.goto 36, 3, 0)) rfl
theorem w29_208 {x : Int32} {l0 l1 l2 l3 l4 l5 l6 : Slot} : W (pj lw) 29 208 (l0 :: l1 :: l2 :: l3 :: l4 :: l5 :: l6 :: .val (.int x) :: L) S k n H Q ↔ W (pj lw) 29 210 (l0 :: l1 :: l2 :: l3 :: l4 :: l5 :: l6 :: .val (.int x) :: L) (.int x :: S) k n H Q := W_s (rfl : (pj lw).1 29 208 = some (.iload 7, 2, 0)) rfl rfl rfl
theorem w29_210 : W (pj lw) 29 210 L S k n H Q ↔ W (pj lw) 29 212 L (.int 94 :: S) k n H Q := W_s (rfl : (pj lw).1 29 210 = some (.bipush 94, 2, 0)) rfl rfl rfl
theorem w29_212 {x y : Int32} : W (pj lw) 29 212 L (.int y :: .int x :: S) k n H Q ↔ (if x = y then W (pj lw) 29 215 L S k n H Q else W (pj lw) 29 225 L S k n H Q) := W_icmp_ne (rfl : (pj lw).1 29 212 = some (.if_icmp .ne 13, 3, 0)) rfl
theorem w29_215 {x : Nat} : W (pj lw) 29 215 (.val (.ref x) :: L) S k n H Q ↔ W (pj lw) 29 216 (.val (.ref x) :: L) (.ref x :: S) k n H Q := W_s (rfl : (pj lw).1 29 215 = some (.aload_n 0, 1, 0)) rfl rfl rfl
theorem w29_216 {x : Int32} {l0 : Slot} : W (pj lw) 29 216 (l0 :: .val (.int x) :: L) S k n H Q ↔ W (pj lw) 29 217 (l0 :: .val (.int x) :: L) (.int x :: S) k n H Q := W_s (rfl : (pj lw).1 29 216 = some (.iload_n 1, 1, 0)) rfl rfl rfl
theorem w29_217 {x : Int32} {l0 l1 : Slot} : W (pj lw) 29 217 (l0 :: l1 :: .val (.int x) :: L) S k n H Q ↔ W (pj lw) 29 218 (l0 :: l1 :: .val (.int x) :: L) (.int x :: S) k n H Q := W_s (rfl : (pj lw).1 29 217 = some (.iload_n 2, 1, 0)) rfl rfl rfl
theorem w29_225 {x : Nat} : W (pj lw) 29 225 (.val (.ref x) :: L) S k n H Q ↔ W (pj lw) 29 226 (.val (.ref x) :: L) (.ref x :: S) k n H Q := W_s (rfl : (pj lw).1 29 225 = some (.aload_n 0, 1, 0)) rfl rfl rfl
theorem w29_226 {x : Int32} {l0 l1 : Slot} : W (pj lw) 29 226 (l0 :: l1 :: .val (.int x) :: L) S k n H Q ↔ W (pj lw) 29 227 (l0 :: l1 :: .val (.int x) :: L) (.int x :: S) k n H Q := W_s (rfl : (pj lw).1 29 226 = some (.iload_n 2, 1, 0)) rfl rfl rfl
theorem w29_227 {x : Int64} {l0 l1 l2 l3 : Slot} : W (pj lw) 29 227 (l0 :: l1 :: l2 :: l3 :: .val (.long x) :: L) S k n H Q ↔ W (pj lw) 29 229 (l0 :: l1 :: l2 :: l3 :: .val (.long x) :: L) (.long x :: S) k n H Q := W_s (rfl : (pj lw).1 29 227 = some (.lload 4, 2, 0)) rfl rfl rfl
theorem w29_229 {a : Nat} {x0 : Int32} {x1 : Int64} : W (pj lw) 29 229 L (.long x1 :: .int x0 :: .ref a :: S) k n H Q ↔ ((isO H a = true ∧ cs S + (5 + 11) + 0 ≤ 46) ∧ Cl (pj lw) 33 [.ref a, .int x0, .long x1] H (fun v H => W (pj lw) 29 232 L (v.toList ++ S) k n H Q)) := W_inst (as := [.int x0, .long x1]) (rfl : (pj lw).1 29 229 = some (.invokevirtual 151, 3, 33)) rfl rfl rfl (Nat.le_of_ble_eq_true rfl) (Nat.le_of_ble_eq_true rfl) ⟨rfl, rfl⟩
theorem w29_232 : W (pj lw) 29 232 L S k n H Q ↔ W (pj lw) 29 233 L (.long 1 :: S) k n H Q := W_s (rfl : (pj lw).1 29 232 = some (.lconst 1, 1, 0)) rfl rfl rfl
theorem w29_233j {x y : Int64} {l0 l1 l2 l3 : Slot} : W (pj lw) 29 233 (l0 :: l1 :: l2 :: l3 :: .val (.long y) :: .second :: L) (.long x :: S) k n H Q ↔ W (pj lw) 29 235 (l0 :: l1 :: l2 :: l3 :: .val (.long x) :: .second :: L) S k n H Q := W_lst' (rfl : (pj lw).1 29 233 = some (.lstore 4, 2, 0)) rfl rfl
theorem w29_235 {x : Int32} {l0 l1 : Slot} : W (pj lw) 29 235 (l0 :: l1 :: .val (.int x) :: L) S k n H Q ↔ W (pj lw) 29 238 (l0 :: l1 :: .val (.int (x + 1)) :: L) S k n H Q := W_s (rfl : (pj lw).1 29 235 = some (.iinc 2 1, 3, 0)) rfl rfl rfl
theorem w29_238 {x : Int32} {l0 : Slot} : W (pj lw) 29 238 (l0 :: .val (.int x) :: L) S k n H Q ↔ W (pj lw) 29 241 (l0 :: .val (.int (x + 1)) :: L) S k n H Q := W_s (rfl : (pj lw).1 29 238 = some (.iinc 1 1, 3, 0)) rfl rfl rfl
theorem w29_241 {x : Int32} {l0 l1 l2 l3 l4 l5 : Slot} : W (pj lw) 29 241 (l0 :: l1 :: l2 :: l3 :: l4 :: l5 :: .val (.int x) :: L) S k n H Q ↔ W (pj lw) 29 244 (l0 :: l1 :: l2 :: l3 :: l4 :: l5 :: .val (.int (x + 1)) :: L) S k n H Q := W_s (rfl : (pj lw).1 29 241 = some (.iinc 6 1, 3, 0)) rfl rfl rfl
theorem w29_244 : W (pj lw) 29 244 L S k n H Q ↔ W (pj lw) 29 75 L S k n H Q := W_goto (rfl : (pj lw).1 29 244 = some (.goto (-169), 3, 0)) rfl
theorem w29_247 {x : Nat} : W (pj lw) 29 247 (.val (.ref x) :: L) S k n H Q ↔ W (pj lw) 29 248 (.val (.ref x) :: L) (.ref x :: S) k n H Q := W_s (rfl : (pj lw).1 29 247 = some (.aload_n 0, 1, 0)) rfl rfl rfl
theorem w29_248 {x : Int32} {l0 l1 : Slot} : W (pj lw) 29 248 (l0 :: l1 :: .val (.int x) :: L) S k n H Q ↔ W (pj lw) 29 249 (l0 :: l1 :: .val (.int x) :: L) (.int x :: S) k n H Q := W_s (rfl : (pj lw).1 29 248 = some (.iload_n 2, 1, 0)) rfl rfl rfl
theorem w29_249 {x : Int64} {l0 l1 l2 l3 : Slot} : W (pj lw) 29 249 (l0 :: l1 :: l2 :: l3 :: .val (.long x) :: L) S k n H Q ↔ W (pj lw) 29 251 (l0 :: l1 :: l2 :: l3 :: .val (.long x) :: L) (.long x :: S) k n H Q := W_s (rfl : (pj lw).1 29 249 = some (.lload 4, 2, 0)) rfl rfl rfl
theorem w29_251 {a : Nat} {x0 : Int32} {x1 : Int64} : W (pj lw) 29 251 L (.long x1 :: .int x0 :: .ref a :: S) k n H Q ↔ ((isO H a = true ∧ cs S + (5 + 11) + 0 ≤ 46) ∧ Cl (pj lw) 33 [.ref a, .int x0, .long x1] H (fun v H => W (pj lw) 29 254 L (v.toList ++ S) k n H Q)) := W_inst (as := [.int x0, .long x1]) (rfl : (pj lw).1 29 251 = some (.invokevirtual 151, 3, 33)) rfl rfl rfl (Nat.le_of_ble_eq_true rfl) (Nat.le_of_ble_eq_true rfl) ⟨rfl, rfl⟩
theorem w29_254 : W (pj lw) 29 254 L [] k n H Q ↔ Q none H := W_r (rfl : (pj lw).1 29 254 = some (.return_, 1, 0)) rfl
theorem c30 {x0 : Nat} {x1 : Int32} {x2 : Int32} : Cl (pj lw) 30 [.ref x0, .int x1, .int x2] H Q ↔ W (pj lw) 30 0 [.val (.ref x0), .val (.int x1), .val (.int x2), .unset, .unset, .unset, .unset] [] 0 0 H Q := cl_unf rfl
theorem w30_0 {x : Nat} : W (pj lw) 30 0 (.val (.ref x) :: L) S k n H Q ↔ W (pj lw) 30 1 (.val (.ref x) :: L) (.ref x :: S) k n H Q := W_s (rfl : (pj lw).1 30 0 = some (.aload_n 0, 1, 0)) rfl rfl rfl
theorem w30_1 {a : Nat} : W (pj lw) 30 1 L (.ref a :: S) k n H Q ↔ (isO H a = true ∧ W (pj lw) 30 4 L (fld H a 2 :: S) k n H Q) := W_getf (rfl : (pj lw).1 30 1 = some (.getfield 7, 3, 2))
theorem w30_4 {x : Int32} {l0 : Slot} : W (pj lw) 30 4 (l0 :: .val (.int x) :: L) S k n H Q ↔ W (pj lw) 30 5 (l0 :: .val (.int x) :: L) (.int x :: S) k n H Q := W_s (rfl : (pj lw).1 30 4 = some (.iload_n 1, 1, 0)) rfl rfl rfl
theorem w30_5 {i : Int32} {a : Nat} : W (pj lw) 30 5 L (.int i :: .ref a :: S) k n H Q ↔ (inA H a .int i = true ∧ W (pj lw) 30 6 L (elt H a i :: S) k n H Q) := W_iaload (rfl : (pj lw).1 30 5 = some (.iaload, 1, 0))
theorem w30_6 : W (pj lw) 30 6 L S k n H Q ↔ W (pj lw) 30 8 L (.int 65 :: S) k n H Q := W_s (rfl : (pj lw).1 30 6 = some (.bipush 65, 2, 0)) rfl rfl rfl
theorem w30_8 {x y : Int32} : W (pj lw) 30 8 L (.int y :: .int x :: S) k n H Q ↔ W (pj lw) 30 9 L (.int (x - y) :: S) k n H Q := W_s (rfl : (pj lw).1 30 8 = some (.isub, 1, 0)) rfl rfl rfl
theorem w30_9 : W (pj lw) 30 9 L S k n H Q ↔ W (pj lw) 30 11 L (.int 27 :: S) k n H Q := W_s (rfl : (pj lw).1 30 9 = some (.bipush 27, 2, 0)) rfl rfl rfl
theorem w30_11 {x y : Int32} : W (pj lw) 30 11 L (.int y :: .int x :: S) k n H Q ↔ W (pj lw) 30 12 L (.int (x * y) :: S) k n H Q := W_s (rfl : (pj lw).1 30 11 = some (.imul, 1, 0)) rfl rfl rfl
theorem w30_12 {x : Int32} {l0 l1 l2 : Slot} : W (pj lw) 30 12 (l0 :: l1 :: l2 :: .unset :: L) (.int x :: S) k n H Q ↔ W (pj lw) 30 13 (l0 :: l1 :: l2 :: .val (.int x) :: L) S k n H Q := W_istn (rfl : (pj lw).1 30 12 = some (.istore_n 3, 1, 0)) rfl rfl
theorem w30_13 {x : Int32} {l0 : Slot} : W (pj lw) 30 13 (l0 :: .val (.int x) :: L) S k n H Q ↔ W (pj lw) 30 14 (l0 :: .val (.int x) :: L) (.int x :: S) k n H Q := W_s (rfl : (pj lw).1 30 13 = some (.iload_n 1, 1, 0)) rfl rfl rfl
theorem w30_14 : W (pj lw) 30 14 L S k n H Q ↔ W (pj lw) 30 15 L (.int 1 :: S) k n H Q := W_s (rfl : (pj lw).1 30 14 = some (.iconst 1, 1, 0)) rfl rfl rfl
theorem w30_15 {x y : Int32} : W (pj lw) 30 15 L (.int y :: .int x :: S) k n H Q ↔ W (pj lw) 30 16 L (.int (x + y) :: S) k n H Q := W_s (rfl : (pj lw).1 30 15 = some (.iadd, 1, 0)) rfl rfl rfl
theorem w30_16 {x : Int32} {l0 l1 l2 l3 : Slot} : W (pj lw) 30 16 (l0 :: l1 :: l2 :: l3 :: .unset :: L) (.int x :: S) k n H Q ↔ W (pj lw) 30 18 (l0 :: l1 :: l2 :: l3 :: .val (.int x) :: L) S k n H Q := W_ist (rfl : (pj lw).1 30 16 = some (.istore 4, 2, 0)) rfl rfl
theorem w30_18 {x : Int32} {l0 l1 l2 l3 : Slot} : W (pj lw) 30 18 (l0 :: l1 :: l2 :: l3 :: .val (.int x) :: L) S k n H Q ↔ W (pj lw) 30 20 (l0 :: l1 :: l2 :: l3 :: .val (.int x) :: L) (.int x :: S) k n H Q := W_s (rfl : (pj lw).1 30 18 = some (.iload 4, 2, 0)) rfl rfl rfl
theorem w30_20 {x : Nat} : W (pj lw) 30 20 (.val (.ref x) :: L) S k n H Q ↔ W (pj lw) 30 21 (.val (.ref x) :: L) (.ref x :: S) k n H Q := W_s (rfl : (pj lw).1 30 20 = some (.aload_n 0, 1, 0)) rfl rfl rfl
theorem w30_21 {a : Nat} : W (pj lw) 30 21 L (.ref a :: S) k n H Q ↔ (isO H a = true ∧ W (pj lw) 30 24 L (fld H a 3 :: S) k n H Q) := W_getf (rfl : (pj lw).1 30 21 = some (.getfield 63, 3, 3))
theorem w30_24 {x y : Int32} : W (pj lw) 30 24 L (.int y :: .int x :: S) k n H Q ↔ (if x < y then W (pj lw) 30 27 L S k n H Q else W (pj lw) 30 59 L S k n H Q) := W_icmp_ge (rfl : (pj lw).1 30 24 = some (.if_icmp .ge 35, 3, 0)) rfl
theorem w30_27 {x : Nat} : W (pj lw) 30 27 (.val (.ref x) :: L) S k n H Q ↔ W (pj lw) 30 28 (.val (.ref x) :: L) (.ref x :: S) k n H Q := W_s (rfl : (pj lw).1 30 27 = some (.aload_n 0, 1, 0)) rfl rfl rfl
theorem w30_28 {x : Nat} : W (pj lw) 30 28 (.val (.ref x) :: L) S k n H Q ↔ W (pj lw) 30 29 (.val (.ref x) :: L) (.ref x :: S) k n H Q := W_s (rfl : (pj lw).1 30 28 = some (.aload_n 0, 1, 0)) rfl rfl rfl
theorem w30_29 {a : Nat} : W (pj lw) 30 29 L (.ref a :: S) k n H Q ↔ (isO H a = true ∧ W (pj lw) 30 32 L (fld H a 2 :: S) k n H Q) := W_getf (rfl : (pj lw).1 30 29 = some (.getfield 7, 3, 2))
theorem w30_32 {x : Int32} {l0 l1 l2 l3 : Slot} : W (pj lw) 30 32 (l0 :: l1 :: l2 :: l3 :: .val (.int x) :: L) S k n H Q ↔ W (pj lw) 30 34 (l0 :: l1 :: l2 :: l3 :: .val (.int x) :: L) (.int x :: S) k n H Q := W_s (rfl : (pj lw).1 30 32 = some (.iload 4, 2, 0)) rfl rfl rfl
theorem w30_34 {i : Int32} {a : Nat} : W (pj lw) 30 34 L (.int i :: .ref a :: S) k n H Q ↔ (inA H a .int i = true ∧ W (pj lw) 30 35 L (elt H a i :: S) k n H Q) := W_iaload (rfl : (pj lw).1 30 34 = some (.iaload, 1, 0))
theorem w30_35 {a : Nat} {x0 : Int32} : W (pj lw) 30 35 L (.int x0 :: .ref a :: S) k n H Q ↔ ((isO H a = true ∧ cs S + (2 + 11) + 0 ≤ 28) ∧ Cl (pj lw) 21 [.ref a, .int x0] H (fun v H => W (pj lw) 30 38 L (v.toList ++ S) k n H Q)) := W_inst (as := [.int x0]) (rfl : (pj lw).1 30 35 = some (.invokevirtual 125, 3, 21)) rfl rfl rfl (Nat.le_of_ble_eq_true rfl) (Nat.le_of_ble_eq_true rfl) ⟨rfl, rfl⟩
theorem w30_38 {x : Int32} : W (pj lw) 30 38 L (.int x :: S) k n H Q ↔ (if x = 0 then W (pj lw) 30 59 L S k n H Q else W (pj lw) 30 41 L S k n H Q) := W_if_eq (rfl : (pj lw).1 30 38 = some (.ifCond .eq 21, 3, 0)) rfl
theorem w30_41 {x : Int32} {l0 l1 l2 : Slot} : W (pj lw) 30 41 (l0 :: l1 :: l2 :: .val (.int x) :: L) S k n H Q ↔ W (pj lw) 30 42 (l0 :: l1 :: l2 :: .val (.int x) :: L) (.int x :: S) k n H Q := W_s (rfl : (pj lw).1 30 41 = some (.iload_n 3, 1, 0)) rfl rfl rfl
theorem w30_42 {x : Nat} : W (pj lw) 30 42 (.val (.ref x) :: L) S k n H Q ↔ W (pj lw) 30 43 (.val (.ref x) :: L) (.ref x :: S) k n H Q := W_s (rfl : (pj lw).1 30 42 = some (.aload_n 0, 1, 0)) rfl rfl rfl
theorem w30_43 {a : Nat} : W (pj lw) 30 43 L (.ref a :: S) k n H Q ↔ (isO H a = true ∧ W (pj lw) 30 46 L (fld H a 2 :: S) k n H Q) := W_getf (rfl : (pj lw).1 30 43 = some (.getfield 7, 3, 2))
theorem w30_46 {x : Int32} {l0 l1 l2 l3 : Slot} : W (pj lw) 30 46 (l0 :: l1 :: l2 :: l3 :: .val (.int x) :: L) S k n H Q ↔ W (pj lw) 30 48 (l0 :: l1 :: l2 :: l3 :: .val (.int x) :: L) (.int x :: S) k n H Q := W_s (rfl : (pj lw).1 30 46 = some (.iload 4, 2, 0)) rfl rfl rfl
theorem w30_48 {i : Int32} {a : Nat} : W (pj lw) 30 48 L (.int i :: .ref a :: S) k n H Q ↔ (inA H a .int i = true ∧ W (pj lw) 30 49 L (elt H a i :: S) k n H Q) := W_iaload (rfl : (pj lw).1 30 48 = some (.iaload, 1, 0))
theorem w30_49 : W (pj lw) 30 49 L S k n H Q ↔ W (pj lw) 30 51 L (.int 97 :: S) k n H Q := W_s (rfl : (pj lw).1 30 49 = some (.bipush 97, 2, 0)) rfl rfl rfl
theorem w30_51 {x y : Int32} : W (pj lw) 30 51 L (.int y :: .int x :: S) k n H Q ↔ W (pj lw) 30 52 L (.int (x - y) :: S) k n H Q := W_s (rfl : (pj lw).1 30 51 = some (.isub, 1, 0)) rfl rfl rfl
theorem w30_52 : W (pj lw) 30 52 L S k n H Q ↔ W (pj lw) 30 53 L (.int 1 :: S) k n H Q := W_s (rfl : (pj lw).1 30 52 = some (.iconst 1, 1, 0)) rfl rfl rfl
theorem w30_53 {x y : Int32} : W (pj lw) 30 53 L (.int y :: .int x :: S) k n H Q ↔ W (pj lw) 30 54 L (.int (x + y) :: S) k n H Q := W_s (rfl : (pj lw).1 30 53 = some (.iadd, 1, 0)) rfl rfl rfl
theorem w30_54 {x y : Int32} : W (pj lw) 30 54 L (.int y :: .int x :: S) k n H Q ↔ W (pj lw) 30 55 L (.int (x + y) :: S) k n H Q := W_s (rfl : (pj lw).1 30 54 = some (.iadd, 1, 0)) rfl rfl rfl
theorem w30_55i {y : Int32} {x : Int32} {l0 l1 l2 : Slot} : W (pj lw) 30 55 (l0 :: l1 :: l2 :: .val (.int y) :: L) (.int x :: S) k n H Q ↔ W (pj lw) 30 56 (l0 :: l1 :: l2 :: .val (.int x) :: L) S k n H Q := W_istn (rfl : (pj lw).1 30 55 = some (.istore_n 3, 1, 0)) rfl rfl
theorem w30_56 {x : Int32} {l0 l1 l2 l3 : Slot} : W (pj lw) 30 56 (l0 :: l1 :: l2 :: l3 :: .val (.int x) :: L) S k n H Q ↔ W (pj lw) 30 59 (l0 :: l1 :: l2 :: l3 :: .val (.int (x + 1)) :: L) S k n H Q := W_s (rfl : (pj lw).1 30 56 = some (.iinc 4 1, 3, 0)) rfl rfl rfl
theorem w30_59 {x : Nat} : W (pj lw) 30 59 (.val (.ref x) :: L) S k n H Q ↔ W (pj lw) 30 60 (.val (.ref x) :: L) (.ref x :: S) k n H Q := W_s (rfl : (pj lw).1 30 59 = some (.aload_n 0, 1, 0)) rfl rfl rfl
theorem w30_60 {x : Int32} {l0 l1 l2 : Slot} : W (pj lw) 30 60 (l0 :: l1 :: l2 :: .val (.int x) :: L) S k n H Q ↔ W (pj lw) 30 61 (l0 :: l1 :: l2 :: .val (.int x) :: L) (.int x :: S) k n H Q := W_s (rfl : (pj lw).1 30 60 = some (.iload_n 3, 1, 0)) rfl rfl rfl
theorem w30_61 {a : Nat} {x0 : Int32} : W (pj lw) 30 61 L (.int x0 :: .ref a :: S) k n H Q ↔ ((isO H a = true ∧ cs S + (3 + 11) + 0 ≤ 28) ∧ Cl (pj lw) 35 [.ref a, .int x0] H (fun v H => W (pj lw) 30 64 L (v.toList ++ S) k n H Q)) := W_inst (as := [.int x0]) (rfl : (pj lw).1 30 61 = some (.invokevirtual 164, 3, 35)) rfl rfl rfl (Nat.le_of_ble_eq_true rfl) (Nat.le_of_ble_eq_true rfl) ⟨rfl, rfl⟩
theorem w30_64 {x : Int32} {l0 l1 l2 l3 l4 : Slot} : W (pj lw) 30 64 (l0 :: l1 :: l2 :: l3 :: l4 :: .unset :: L) (.int x :: S) k n H Q ↔ W (pj lw) 30 66 (l0 :: l1 :: l2 :: l3 :: l4 :: .val (.int x) :: L) S k n H Q := W_ist (rfl : (pj lw).1 30 64 = some (.istore 5, 2, 0)) rfl rfl
theorem w30_66 {x : Nat} : W (pj lw) 30 66 (.val (.ref x) :: L) S k n H Q ↔ W (pj lw) 30 67 (.val (.ref x) :: L) (.ref x :: S) k n H Q := W_s (rfl : (pj lw).1 30 66 = some (.aload_n 0, 1, 0)) rfl rfl rfl
theorem w30_67 {x : Int32} {l0 l1 l2 l3 : Slot} : W (pj lw) 30 67 (l0 :: l1 :: l2 :: l3 :: .val (.int x) :: L) S k n H Q ↔ W (pj lw) 30 69 (l0 :: l1 :: l2 :: l3 :: .val (.int x) :: L) (.int x :: S) k n H Q := W_s (rfl : (pj lw).1 30 67 = some (.iload 4, 2, 0)) rfl rfl rfl
theorem w30_69 {a : Nat} {x0 : Int32} : W (pj lw) 30 69 L (.int x0 :: .ref a :: S) k n H Q ↔ ((isO H a = true ∧ cs S + (4 + 11) + 13 ≤ 28) ∧ Cl (pj lw) 34 [.ref a, .int x0] H (fun v H => W (pj lw) 30 72 L (v.toList ++ S) k n H Q)) := W_inst (as := [.int x0]) (rfl : (pj lw).1 30 69 = some (.invokevirtual 155, 3, 34)) rfl rfl rfl (Nat.le_of_ble_eq_true rfl) (Nat.le_of_ble_eq_true rfl) ⟨rfl, rfl⟩
theorem w30_72 {x : Int32} {l0 l1 l2 l3 l4 l5 : Slot} : W (pj lw) 30 72 (l0 :: l1 :: l2 :: l3 :: l4 :: l5 :: .unset :: L) (.int x :: S) k n H Q ↔ W (pj lw) 30 74 (l0 :: l1 :: l2 :: l3 :: l4 :: l5 :: .val (.int x) :: L) S k n H Q := W_ist (rfl : (pj lw).1 30 72 = some (.istore 6, 2, 0)) rfl rfl
theorem w30_74 {x : Int32} {l0 l1 l2 l3 l4 : Slot} : W (pj lw) 30 74 (l0 :: l1 :: l2 :: l3 :: l4 :: .val (.int x) :: L) S k n H Q ↔ W (pj lw) 30 76 (l0 :: l1 :: l2 :: l3 :: l4 :: .val (.int x) :: L) (.int x :: S) k n H Q := W_s (rfl : (pj lw).1 30 74 = some (.iload 5, 2, 0)) rfl rfl rfl
theorem w30_76 {x : Int32} : W (pj lw) 30 76 L (.int x :: S) k n H Q ↔ (if x < 0 then W (pj lw) 30 106 L S k n H Q else W (pj lw) 30 79 L S k n H Q) := W_if_lt (rfl : (pj lw).1 30 76 = some (.ifCond .lt 30, 3, 0)) rfl
theorem w30_79 {x : Int32} {l0 l1 : Slot} : W (pj lw) 30 79 (l0 :: l1 :: .val (.int x) :: L) S k n H Q ↔ W (pj lw) 30 80 (l0 :: l1 :: .val (.int x) :: L) (.int x :: S) k n H Q := W_s (rfl : (pj lw).1 30 79 = some (.iload_n 2, 1, 0)) rfl rfl rfl
theorem w30_80 {x : Int32} : W (pj lw) 30 80 L (.int x :: S) k n H Q ↔ (if x < 0 then W (pj lw) 30 106 L S k n H Q else W (pj lw) 30 83 L S k n H Q) := W_if_lt (rfl : (pj lw).1 30 80 = some (.ifCond .lt 26, 3, 0)) rfl
theorem w30_83 {x : Int32} {l0 l1 : Slot} : W (pj lw) 30 83 (l0 :: l1 :: .val (.int x) :: L) S k n H Q ↔ W (pj lw) 30 84 (l0 :: l1 :: .val (.int x) :: L) (.int x :: S) k n H Q := W_s (rfl : (pj lw).1 30 83 = some (.iload_n 2, 1, 0)) rfl rfl rfl
theorem w30_84 : W (pj lw) 30 84 L S k n H Q ↔ W (pj lw) 30 85 L (.int 4 :: S) k n H Q := W_s (rfl : (pj lw).1 30 84 = some (.iconst 4, 1, 0)) rfl rfl rfl
theorem w30_85 {x y : Int32} : W (pj lw) 30 85 L (.int y :: .int x :: S) k n H Q ↔ (if y < x then W (pj lw) 30 106 L S k n H Q else W (pj lw) 30 88 L S k n H Q) := W_icmp_gt (rfl : (pj lw).1 30 85 = some (.if_icmp .gt 21, 3, 0)) rfl
theorem w30_88 {x : Nat} : W (pj lw) 30 88 (.val (.ref x) :: L) S k n H Q ↔ W (pj lw) 30 89 (.val (.ref x) :: L) (.ref x :: S) k n H Q := W_s (rfl : (pj lw).1 30 88 = some (.aload_n 0, 1, 0)) rfl rfl rfl
theorem w30_89 {a : Nat} : W (pj lw) 30 89 L (.ref a :: S) k n H Q ↔ (isO H a = true ∧ W (pj lw) 30 92 L (fld H a 20 :: S) k n H Q) := W_getf (rfl : (pj lw).1 30 89 = some (.getfield 38, 3, 20))
theorem w30_92 {x : Int32} {l0 l1 : Slot} : W (pj lw) 30 92 (l0 :: l1 :: .val (.int x) :: L) S k n H Q ↔ W (pj lw) 30 93 (l0 :: l1 :: .val (.int x) :: L) (.int x :: S) k n H Q := W_s (rfl : (pj lw).1 30 92 = some (.iload_n 2, 1, 0)) rfl rfl rfl
theorem w30_93 : W (pj lw) 30 93 L S k n H Q ↔ W (pj lw) 30 95 L (.int 8 :: S) k n H Q := W_s (rfl : (pj lw).1 30 93 = some (.bipush 8, 2, 0)) rfl rfl rfl
theorem w30_95 {x y : Int32} : W (pj lw) 30 95 L (.int y :: .int x :: S) k n H Q ↔ W (pj lw) 30 96 L (.int (x * y) :: S) k n H Q := W_s (rfl : (pj lw).1 30 95 = some (.imul, 1, 0)) rfl rfl rfl
theorem w30_96 {x : Int32} {l0 l1 l2 l3 l4 : Slot} : W (pj lw) 30 96 (l0 :: l1 :: l2 :: l3 :: l4 :: .val (.int x) :: L) S k n H Q ↔ W (pj lw) 30 98 (l0 :: l1 :: l2 :: l3 :: l4 :: .val (.int x) :: L) (.int x :: S) k n H Q := W_s (rfl : (pj lw).1 30 96 = some (.iload 5, 2, 0)) rfl rfl rfl
theorem w30_98 {x y : Int32} : W (pj lw) 30 98 L (.int y :: .int x :: S) k n H Q ↔ W (pj lw) 30 99 L (.int (x + y) :: S) k n H Q := W_s (rfl : (pj lw).1 30 98 = some (.iadd, 1, 0)) rfl rfl rfl
theorem w30_99 {x : Int32} {y : Nat} : W (pj lw) 30 99 L (.int x :: .ref y :: S) k n H Q ↔ W (pj lw) 30 100 L (.int x :: .ref y :: .int x :: .ref y :: S) k n H Q := W_s (rfl : (pj lw).1 30 99 = some (.dup2, 1, 0)) rfl rfl rfl
theorem w30_100 {i : Int32} {a : Nat} : W (pj lw) 30 100 L (.int i :: .ref a :: S) k n H Q ↔ (inA H a .long i = true ∧ W (pj lw) 30 101 L (elt H a i :: S) k n H Q) := W_laload (rfl : (pj lw).1 30 100 = some (.laload, 1, 0))
theorem w30_101 {x : Int32} {l0 l1 l2 l3 l4 l5 : Slot} : W (pj lw) 30 101 (l0 :: l1 :: l2 :: l3 :: l4 :: l5 :: .val (.int x) :: L) S k n H Q ↔ W (pj lw) 30 103 (l0 :: l1 :: l2 :: l3 :: l4 :: l5 :: .val (.int x) :: L) (.int x :: S) k n H Q := W_s (rfl : (pj lw).1 30 101 = some (.iload 6, 2, 0)) rfl rfl rfl
theorem w30_103 {x : Int32} : W (pj lw) 30 103 L (.int x :: S) k n H Q ↔ W (pj lw) 30 104 L (.long x.toInt64 :: S) k n H Q := W_s (rfl : (pj lw).1 30 103 = some (.i2l, 1, 0)) rfl rfl rfl
theorem w30_104 {x y : Int64} : W (pj lw) 30 104 L (.long y :: .long x :: S) k n H Q ↔ W (pj lw) 30 105 L (.long (x + y) :: S) k n H Q := W_s (rfl : (pj lw).1 30 104 = some (.ladd, 1, 0)) rfl rfl rfl
theorem w30_105 {x : Int64} {i : Int32} {a : Nat} : W (pj lw) 30 105 L (.long x :: .int i :: .ref a :: S) k n H Q ↔ (inAw H a .long i = true ∧ W (pj lw) 30 106 L S k n (wr H a i.toNatClampNeg (.long x)) Q) := W_lastore (rfl : (pj lw).1 30 105 = some (.lastore, 1, 0))
theorem w30_106 {x : Nat} : W (pj lw) 30 106 (.val (.ref x) :: L) S k n H Q ↔ W (pj lw) 30 107 (.val (.ref x) :: L) (.ref x :: S) k n H Q := W_s (rfl : (pj lw).1 30 106 = some (.aload_n 0, 1, 0)) rfl rfl rfl
theorem w30_107 {a : Nat} : W (pj lw) 30 107 L (.ref a :: S) k n H Q ↔ (isO H a = true ∧ W (pj lw) 30 110 L (fld H a 9 :: S) k n H Q) := W_getf (rfl : (pj lw).1 30 107 = some (.getfield 158, 3, 9))
theorem w30_110 {x : Int32} : W (pj lw) 30 110 L (.int x :: S) k n H Q ↔ Q (some (.int x)) H := W_r (rfl : (pj lw).1 30 110 = some (.ireturn, 1, 0)) rfl
theorem c33 {x0 : Nat} {x1 : Int32} {x2 : Int64} : Cl (pj lw) 33 [.ref x0, .int x1, .long x2] H Q ↔ W (pj lw) 33 0 [.val (.ref x0), .val (.int x1), .val (.long x2), .second, .unset] [] 0 0 H Q := cl_unf rfl
theorem w33_0 : W (pj lw) 33 0 L S k n H Q ↔ W (pj lw) 33 1 L (.int 0 :: S) k n H Q := W_s (rfl : (pj lw).1 33 0 = some (.iconst 0, 1, 0)) rfl rfl rfl
theorem w33_1 {x : Int32} {l0 l1 l2 l3 : Slot} : W (pj lw) 33 1 (l0 :: l1 :: l2 :: l3 :: .unset :: L) (.int x :: S) k n H Q ↔ W (pj lw) 33 3 (l0 :: l1 :: l2 :: l3 :: .val (.int x) :: L) S k n H Q := W_ist (rfl : (pj lw).1 33 1 = some (.istore 4, 2, 0)) rfl rfl
theorem w33_3 {x : Int32} {l0 l1 l2 l3 : Slot} : W (pj lw) 33 3 (l0 :: l1 :: l2 :: l3 :: .val (.int x) :: L) S k n H Q ↔ W (pj lw) 33 5 (l0 :: l1 :: l2 :: l3 :: .val (.int x) :: L) (.int x :: S) k n H Q := W_s (rfl : (pj lw).1 33 3 = some (.iload 4, 2, 0)) rfl rfl rfl
theorem w33_5 : W (pj lw) 33 5 L S k n H Q ↔ W (pj lw) 33 7 L (.int 8 :: S) k n H Q := W_s (rfl : (pj lw).1 33 5 = some (.bipush 8, 2, 0)) rfl rfl rfl
theorem w33_7 {x y : Int32} : W (pj lw) 33 7 L (.int y :: .int x :: S) k n H Q ↔ (if x < y then W (pj lw) 33 10 L S k n H Q else W (pj lw) 33 58 L S k n H Q) := W_icmp_ge (rfl : (pj lw).1 33 7 = some (.if_icmp .ge 51, 3, 0)) rfl
theorem w33_10 {x : Int32} {l0 : Slot} : W (pj lw) 33 10 (l0 :: .val (.int x) :: L) S k n H Q ↔ W (pj lw) 33 11 (l0 :: .val (.int x) :: L) (.int x :: S) k n H Q := W_s (rfl : (pj lw).1 33 10 = some (.iload_n 1, 1, 0)) rfl rfl rfl
theorem w33_11 {x : Int32} : W (pj lw) 33 11 L (.int x :: S) k n H Q ↔ (if x < 0 then W (pj lw) 33 44 L S k n H Q else W (pj lw) 33 14 L S k n H Q) := W_if_lt (rfl : (pj lw).1 33 11 = some (.ifCond .lt 33, 3, 0)) rfl
theorem w33_14 {x : Int32} {l0 : Slot} : W (pj lw) 33 14 (l0 :: .val (.int x) :: L) S k n H Q ↔ W (pj lw) 33 15 (l0 :: .val (.int x) :: L) (.int x :: S) k n H Q := W_s (rfl : (pj lw).1 33 14 = some (.iload_n 1, 1, 0)) rfl rfl rfl
theorem w33_15 : W (pj lw) 33 15 L S k n H Q ↔ W (pj lw) 33 17 L (.int 6 :: S) k n H Q := W_s (rfl : (pj lw).1 33 15 = some (.bipush 6, 2, 0)) rfl rfl rfl
theorem w33_17 {x y : Int32} : W (pj lw) 33 17 L (.int y :: .int x :: S) k n H Q ↔ (if x < y then W (pj lw) 33 20 L S k n H Q else W (pj lw) 33 44 L S k n H Q) := W_icmp_ge (rfl : (pj lw).1 33 17 = some (.if_icmp .ge 27, 3, 0)) rfl
theorem w33_20 {x : Nat} : W (pj lw) 33 20 (.val (.ref x) :: L) S k n H Q ↔ W (pj lw) 33 21 (.val (.ref x) :: L) (.ref x :: S) k n H Q := W_s (rfl : (pj lw).1 33 20 = some (.aload_n 0, 1, 0)) rfl rfl rfl
theorem w33_21 {a : Nat} : W (pj lw) 33 21 L (.ref a :: S) k n H Q ↔ (isO H a = true ∧ W (pj lw) 33 24 L (fld H a 19 :: S) k n H Q) := W_getf (rfl : (pj lw).1 33 21 = some (.getfield 35, 3, 19))
theorem w33_24 {x : Int32} {l0 : Slot} : W (pj lw) 33 24 (l0 :: .val (.int x) :: L) S k n H Q ↔ W (pj lw) 33 25 (l0 :: .val (.int x) :: L) (.int x :: S) k n H Q := W_s (rfl : (pj lw).1 33 24 = some (.iload_n 1, 1, 0)) rfl rfl rfl
theorem w33_25 : W (pj lw) 33 25 L S k n H Q ↔ W (pj lw) 33 27 L (.int 8 :: S) k n H Q := W_s (rfl : (pj lw).1 33 25 = some (.bipush 8, 2, 0)) rfl rfl rfl
theorem w33_27 {x y : Int32} : W (pj lw) 33 27 L (.int y :: .int x :: S) k n H Q ↔ W (pj lw) 33 28 L (.int (x * y) :: S) k n H Q := W_s (rfl : (pj lw).1 33 27 = some (.imul, 1, 0)) rfl rfl rfl
theorem w33_28 {x : Int32} {l0 l1 l2 l3 : Slot} : W (pj lw) 33 28 (l0 :: l1 :: l2 :: l3 :: .val (.int x) :: L) S k n H Q ↔ W (pj lw) 33 30 (l0 :: l1 :: l2 :: l3 :: .val (.int x) :: L) (.int x :: S) k n H Q := W_s (rfl : (pj lw).1 33 28 = some (.iload 4, 2, 0)) rfl rfl rfl
theorem w33_30 {x y : Int32} : W (pj lw) 33 30 L (.int y :: .int x :: S) k n H Q ↔ W (pj lw) 33 31 L (.int (x + y) :: S) k n H Q := W_s (rfl : (pj lw).1 33 30 = some (.iadd, 1, 0)) rfl rfl rfl
theorem w33_31 {x : Int32} {y : Nat} : W (pj lw) 33 31 L (.int x :: .ref y :: S) k n H Q ↔ W (pj lw) 33 32 L (.int x :: .ref y :: .int x :: .ref y :: S) k n H Q := W_s (rfl : (pj lw).1 33 31 = some (.dup2, 1, 0)) rfl rfl rfl
theorem w33_32 {i : Int32} {a : Nat} : W (pj lw) 33 32 L (.int i :: .ref a :: S) k n H Q ↔ (inA H a .long i = true ∧ W (pj lw) 33 33 L (elt H a i :: S) k n H Q) := W_laload (rfl : (pj lw).1 33 32 = some (.laload, 1, 0))
theorem w33_33 {x : Nat} : W (pj lw) 33 33 (.val (.ref x) :: L) S k n H Q ↔ W (pj lw) 33 34 (.val (.ref x) :: L) (.ref x :: S) k n H Q := W_s (rfl : (pj lw).1 33 33 = some (.aload_n 0, 1, 0)) rfl rfl rfl
theorem w33_34 {a : Nat} : W (pj lw) 33 34 L (.ref a :: S) k n H Q ↔ (isO H a = true ∧ W (pj lw) 33 37 L (fld H a 20 :: S) k n H Q) := W_getf (rfl : (pj lw).1 33 34 = some (.getfield 38, 3, 20))
theorem w33_37 {x : Int32} {l0 l1 l2 l3 : Slot} : W (pj lw) 33 37 (l0 :: l1 :: l2 :: l3 :: .val (.int x) :: L) S k n H Q ↔ W (pj lw) 33 39 (l0 :: l1 :: l2 :: l3 :: .val (.int x) :: L) (.int x :: S) k n H Q := W_s (rfl : (pj lw).1 33 37 = some (.iload 4, 2, 0)) rfl rfl rfl
theorem w33_39 {i : Int32} {a : Nat} : W (pj lw) 33 39 L (.int i :: .ref a :: S) k n H Q ↔ (inA H a .long i = true ∧ W (pj lw) 33 40 L (elt H a i :: S) k n H Q) := W_laload (rfl : (pj lw).1 33 39 = some (.laload, 1, 0))
theorem w33_40 {x : Int64} {l0 l1 : Slot} : W (pj lw) 33 40 (l0 :: l1 :: .val (.long x) :: L) S k n H Q ↔ W (pj lw) 33 41 (l0 :: l1 :: .val (.long x) :: L) (.long x :: S) k n H Q := W_s (rfl : (pj lw).1 33 40 = some (.lload_n 2, 1, 0)) rfl rfl rfl
theorem w33_41 {x y : Int64} : W (pj lw) 33 41 L (.long y :: .long x :: S) k n H Q ↔ W (pj lw) 33 42 L (.long (x * y) :: S) k n H Q := W_s (rfl : (pj lw).1 33 41 = some (.lmul, 1, 0)) rfl rfl rfl
theorem w33_42 {x y : Int64} : W (pj lw) 33 42 L (.long y :: .long x :: S) k n H Q ↔ W (pj lw) 33 43 L (.long (x + y) :: S) k n H Q := W_s (rfl : (pj lw).1 33 42 = some (.ladd, 1, 0)) rfl rfl rfl
theorem w33_43 {x : Int64} {i : Int32} {a : Nat} : W (pj lw) 33 43 L (.long x :: .int i :: .ref a :: S) k n H Q ↔ (inAw H a .long i = true ∧ W (pj lw) 33 44 L S k n (wr H a i.toNatClampNeg (.long x)) Q) := W_lastore (rfl : (pj lw).1 33 43 = some (.lastore, 1, 0))
theorem w33_44 {x : Nat} : W (pj lw) 33 44 (.val (.ref x) :: L) S k n H Q ↔ W (pj lw) 33 45 (.val (.ref x) :: L) (.ref x :: S) k n H Q := W_s (rfl : (pj lw).1 33 44 = some (.aload_n 0, 1, 0)) rfl rfl rfl
theorem w33_45 {a : Nat} : W (pj lw) 33 45 L (.ref a :: S) k n H Q ↔ (isO H a = true ∧ W (pj lw) 33 48 L (fld H a 20 :: S) k n H Q) := W_getf (rfl : (pj lw).1 33 45 = some (.getfield 38, 3, 20))
theorem w33_48 {x : Int32} {l0 l1 l2 l3 : Slot} : W (pj lw) 33 48 (l0 :: l1 :: l2 :: l3 :: .val (.int x) :: L) S k n H Q ↔ W (pj lw) 33 50 (l0 :: l1 :: l2 :: l3 :: .val (.int x) :: L) (.int x :: S) k n H Q := W_s (rfl : (pj lw).1 33 48 = some (.iload 4, 2, 0)) rfl rfl rfl
theorem w33_50 : W (pj lw) 33 50 L S k n H Q ↔ W (pj lw) 33 51 L (.long 0 :: S) k n H Q := W_s (rfl : (pj lw).1 33 50 = some (.lconst 0, 1, 0)) rfl rfl rfl
theorem w33_51 {x : Int64} {i : Int32} {a : Nat} : W (pj lw) 33 51 L (.long x :: .int i :: .ref a :: S) k n H Q ↔ (inAw H a .long i = true ∧ W (pj lw) 33 52 L S k n (wr H a i.toNatClampNeg (.long x)) Q) := W_lastore (rfl : (pj lw).1 33 51 = some (.lastore, 1, 0))
theorem w33_52 {x : Int32} {l0 l1 l2 l3 : Slot} : W (pj lw) 33 52 (l0 :: l1 :: l2 :: l3 :: .val (.int x) :: L) S k n H Q ↔ W (pj lw) 33 55 (l0 :: l1 :: l2 :: l3 :: .val (.int (x + 1)) :: L) S k n H Q := W_s (rfl : (pj lw).1 33 52 = some (.iinc 4 1, 3, 0)) rfl rfl rfl
theorem w33_55 : W (pj lw) 33 55 L S k n H Q ↔ W (pj lw) 33 3 L S k n H Q := W_goto (rfl : (pj lw).1 33 55 = some (.goto (-52), 3, 0)) rfl
theorem w33_58 : W (pj lw) 33 58 L [] k n H Q ↔ Q none H := W_r (rfl : (pj lw).1 33 58 = some (.return_, 1, 0)) rfl
theorem c34 {x0 : Nat} {x1 : Int32} : Cl (pj lw) 34 [.ref x0, .int x1] H Q ↔ W (pj lw) 34 0 [.val (.ref x0), .val (.int x1), .unset, .unset] [] 0 0 H Q := cl_unf rfl
theorem w34_0 {x : Int32} {l0 : Slot} : W (pj lw) 34 0 (l0 :: .val (.int x) :: L) S k n H Q ↔ W (pj lw) 34 1 (l0 :: .val (.int x) :: L) (.int x :: S) k n H Q := W_s (rfl : (pj lw).1 34 0 = some (.iload_n 1, 1, 0)) rfl rfl rfl
theorem w34_1 {x : Int32} : W (pj lw) 34 1 L (.int x :: S) k n H Q ↔ (if x < 0 then W (pj lw) 34 25 L S k n H Q else W (pj lw) 34 4 L S k n H Q) := W_if_lt (rfl : (pj lw).1 34 1 = some (.ifCond .lt 24, 3, 0)) rfl
theorem w34_4 {x : Int32} {l0 : Slot} : W (pj lw) 34 4 (l0 :: .val (.int x) :: L) S k n H Q ↔ W (pj lw) 34 5 (l0 :: .val (.int x) :: L) (.int x :: S) k n H Q := W_s (rfl : (pj lw).1 34 4 = some (.iload_n 1, 1, 0)) rfl rfl rfl
theorem w34_5 {x : Nat} : W (pj lw) 34 5 (.val (.ref x) :: L) S k n H Q ↔ W (pj lw) 34 6 (.val (.ref x) :: L) (.ref x :: S) k n H Q := W_s (rfl : (pj lw).1 34 5 = some (.aload_n 0, 1, 0)) rfl rfl rfl
theorem w34_6 {a : Nat} : W (pj lw) 34 6 L (.ref a :: S) k n H Q ↔ (isO H a = true ∧ W (pj lw) 34 9 L (fld H a 3 :: S) k n H Q) := W_getf (rfl : (pj lw).1 34 6 = some (.getfield 63, 3, 3))
theorem w34_9 {x y : Int32} : W (pj lw) 34 9 L (.int y :: .int x :: S) k n H Q ↔ (if x < y then W (pj lw) 34 12 L S k n H Q else W (pj lw) 34 25 L S k n H Q) := W_icmp_ge (rfl : (pj lw).1 34 9 = some (.if_icmp .ge 16, 3, 0)) rfl
theorem w34_12 {x : Nat} : W (pj lw) 34 12 (.val (.ref x) :: L) S k n H Q ↔ W (pj lw) 34 13 (.val (.ref x) :: L) (.ref x :: S) k n H Q := W_s (rfl : (pj lw).1 34 12 = some (.aload_n 0, 1, 0)) rfl rfl rfl
theorem w34_13 {x : Nat} : W (pj lw) 34 13 (.val (.ref x) :: L) S k n H Q ↔ W (pj lw) 34 14 (.val (.ref x) :: L) (.ref x :: S) k n H Q := W_s (rfl : (pj lw).1 34 13 = some (.aload_n 0, 1, 0)) rfl rfl rfl
theorem w34_14 {a : Nat} : W (pj lw) 34 14 L (.ref a :: S) k n H Q ↔ (isO H a = true ∧ W (pj lw) 34 17 L (fld H a 2 :: S) k n H Q) := W_getf (rfl : (pj lw).1 34 14 = some (.getfield 7, 3, 2))
theorem w34_17 {x : Int32} {l0 : Slot} : W (pj lw) 34 17 (l0 :: .val (.int x) :: L) S k n H Q ↔ W (pj lw) 34 18 (l0 :: .val (.int x) :: L) (.int x :: S) k n H Q := W_s (rfl : (pj lw).1 34 17 = some (.iload_n 1, 1, 0)) rfl rfl rfl
theorem w34_18 {i : Int32} {a : Nat} : W (pj lw) 34 18 L (.int i :: .ref a :: S) k n H Q ↔ (inA H a .int i = true ∧ W (pj lw) 34 19 L (elt H a i :: S) k n H Q) := W_iaload (rfl : (pj lw).1 34 18 = some (.iaload, 1, 0))
theorem w34_19 {a : Nat} {x0 : Int32} : W (pj lw) 34 19 L (.int x0 :: .ref a :: S) k n H Q ↔ ((isO H a = true ∧ cs S + (2 + 11) + 0 ≤ 13) ∧ Cl (pj lw) 22 [.ref a, .int x0] H (fun v H => W (pj lw) 34 22 L (v.toList ++ S) k n H Q)) := W_inst (as := [.int x0]) (rfl : (pj lw).1 34 19 = some (.invokevirtual 128, 3, 22)) rfl rfl rfl (Nat.le_of_ble_eq_true rfl) (Nat.le_of_ble_eq_true rfl) ⟨rfl, rfl⟩
theorem w34_22 {x : Int32} : W (pj lw) 34 22 L (.int x :: S) k n H Q ↔ (if x = 0 then W (pj lw) 34 25 L S k n H Q else W (pj lw) 34 32 L S k n H Q) := W_if_ne (rfl : (pj lw).1 34 22 = some (.ifCond .ne 10, 3, 0)) rfl
theorem w34_25 {x : Nat} : W (pj lw) 34 25 (.val (.ref x) :: L) S k n H Q ↔ W (pj lw) 34 26 (.val (.ref x) :: L) (.ref x :: S) k n H Q := W_s (rfl : (pj lw).1 34 25 = some (.aload_n 0, 1, 0)) rfl rfl rfl
theorem w34_26 {x : Int32} {l0 : Slot} : W (pj lw) 34 26 (l0 :: .val (.int x) :: L) S k n H Q ↔ W (pj lw) 34 27 (l0 :: .val (.int x) :: L) (.int x :: S) k n H Q := W_s (rfl : (pj lw).1 34 26 = some (.iload_n 1, 1, 0)) rfl rfl rfl
theorem w34_27 {a : Nat} {v : Value} : W (pj lw) 34 27 L (v :: .ref a :: S) k n H Q ↔ ((isOw H a = true ∧ okv (.int) v = true) ∧ W (pj lw) 34 30 L S k n (wr H a 9 v) Q) := W_putf (rfl : (pj lw).1 34 27 = some (.putfield 158, 3, 9))
theorem w34_30 : W (pj lw) 34 30 L S k n H Q ↔ W (pj lw) 34 31 L (.int 1 :: S) k n H Q := W_s (rfl : (pj lw).1 34 30 = some (.iconst 1, 1, 0)) rfl rfl rfl
theorem w34_31 {x : Int32} : W (pj lw) 34 31 L (.int x :: S) k n H Q ↔ Q (some (.int x)) H := W_r (rfl : (pj lw).1 34 31 = some (.ireturn, 1, 0)) rfl
theorem w34_32 {x : Nat} : W (pj lw) 34 32 (.val (.ref x) :: L) S k n H Q ↔ W (pj lw) 34 33 (.val (.ref x) :: L) (.ref x :: S) k n H Q := W_s (rfl : (pj lw).1 34 32 = some (.aload_n 0, 1, 0)) rfl rfl rfl
theorem w34_33 {a : Nat} : W (pj lw) 34 33 L (.ref a :: S) k n H Q ↔ (isO H a = true ∧ W (pj lw) 34 36 L (fld H a 2 :: S) k n H Q) := W_getf (rfl : (pj lw).1 34 33 = some (.getfield 7, 3, 2))
theorem w34_36 {x : Int32} {l0 : Slot} : W (pj lw) 34 36 (l0 :: .val (.int x) :: L) S k n H Q ↔ W (pj lw) 34 37 (l0 :: .val (.int x) :: L) (.int x :: S) k n H Q := W_s (rfl : (pj lw).1 34 36 = some (.iload_n 1, 1, 0)) rfl rfl rfl
theorem w34_37 {i : Int32} {a : Nat} : W (pj lw) 34 37 L (.int i :: .ref a :: S) k n H Q ↔ (inA H a .int i = true ∧ W (pj lw) 34 38 L (elt H a i :: S) k n H Q) := W_iaload (rfl : (pj lw).1 34 37 = some (.iaload, 1, 0))
theorem w34_38 : W (pj lw) 34 38 L S k n H Q ↔ W (pj lw) 34 40 L (.int 48 :: S) k n H Q := W_s (rfl : (pj lw).1 34 38 = some (.bipush 48, 2, 0)) rfl rfl rfl
theorem w34_40 {x y : Int32} : W (pj lw) 34 40 L (.int y :: .int x :: S) k n H Q ↔ W (pj lw) 34 41 L (.int (x - y) :: S) k n H Q := W_s (rfl : (pj lw).1 34 40 = some (.isub, 1, 0)) rfl rfl rfl
theorem w34_41 {x : Int32} {l0 l1 : Slot} : W (pj lw) 34 41 (l0 :: l1 :: .unset :: L) (.int x :: S) k n H Q ↔ W (pj lw) 34 42 (l0 :: l1 :: .val (.int x) :: L) S k n H Q := W_istn (rfl : (pj lw).1 34 41 = some (.istore_n 2, 1, 0)) rfl rfl
theorem w34_42 {x : Int32} {l0 : Slot} : W (pj lw) 34 42 (l0 :: .val (.int x) :: L) S k n H Q ↔ W (pj lw) 34 43 (l0 :: .val (.int x) :: L) (.int x :: S) k n H Q := W_s (rfl : (pj lw).1 34 42 = some (.iload_n 1, 1, 0)) rfl rfl rfl
theorem w34_43 : W (pj lw) 34 43 L S k n H Q ↔ W (pj lw) 34 44 L (.int 1 :: S) k n H Q := W_s (rfl : (pj lw).1 34 43 = some (.iconst 1, 1, 0)) rfl rfl rfl
theorem w34_44 {x y : Int32} : W (pj lw) 34 44 L (.int y :: .int x :: S) k n H Q ↔ W (pj lw) 34 45 L (.int (x + y) :: S) k n H Q := W_s (rfl : (pj lw).1 34 44 = some (.iadd, 1, 0)) rfl rfl rfl
theorem w34_45 {x : Int32} {l0 l1 l2 : Slot} : W (pj lw) 34 45 (l0 :: l1 :: l2 :: .unset :: L) (.int x :: S) k n H Q ↔ W (pj lw) 34 46 (l0 :: l1 :: l2 :: .val (.int x) :: L) S k n H Q := W_istn (rfl : (pj lw).1 34 45 = some (.istore_n 3, 1, 0)) rfl rfl
theorem w34_46 {x : Int32} {l0 l1 l2 : Slot} : W (pj lw) 34 46 (l0 :: l1 :: l2 :: .val (.int x) :: L) S k n H Q ↔ W (pj lw) 34 47 (l0 :: l1 :: l2 :: .val (.int x) :: L) (.int x :: S) k n H Q := W_s (rfl : (pj lw).1 34 46 = some (.iload_n 3, 1, 0)) rfl rfl rfl
theorem w34_47 {x : Nat} : W (pj lw) 34 47 (.val (.ref x) :: L) S k n H Q ↔ W (pj lw) 34 48 (.val (.ref x) :: L) (.ref x :: S) k n H Q := W_s (rfl : (pj lw).1 34 47 = some (.aload_n 0, 1, 0)) rfl rfl rfl
theorem w34_48 {a : Nat} : W (pj lw) 34 48 L (.ref a :: S) k n H Q ↔ (isO H a = true ∧ W (pj lw) 34 51 L (fld H a 3 :: S) k n H Q) := W_getf (rfl : (pj lw).1 34 48 = some (.getfield 63, 3, 3))
theorem w34_51 {x y : Int32} : W (pj lw) 34 51 L (.int y :: .int x :: S) k n H Q ↔ (if x < y then W (pj lw) 34 54 L S k n H Q else W (pj lw) 34 85 L S k n H Q) := W_icmp_ge (rfl : (pj lw).1 34 51 = some (.if_icmp .ge 34, 3, 0)) rfl
theorem w34_54 {x : Nat} : W (pj lw) 34 54 (.val (.ref x) :: L) S k n H Q ↔ W (pj lw) 34 55 (.val (.ref x) :: L) (.ref x :: S) k n H Q := W_s (rfl : (pj lw).1 34 54 = some (.aload_n 0, 1, 0)) rfl rfl rfl
theorem w34_55 {x : Nat} : W (pj lw) 34 55 (.val (.ref x) :: L) S k n H Q ↔ W (pj lw) 34 56 (.val (.ref x) :: L) (.ref x :: S) k n H Q := W_s (rfl : (pj lw).1 34 55 = some (.aload_n 0, 1, 0)) rfl rfl rfl
theorem w34_56 {a : Nat} : W (pj lw) 34 56 L (.ref a :: S) k n H Q ↔ (isO H a = true ∧ W (pj lw) 34 59 L (fld H a 2 :: S) k n H Q) := W_getf (rfl : (pj lw).1 34 56 = some (.getfield 7, 3, 2))
theorem w34_59 {x : Int32} {l0 l1 l2 : Slot} : W (pj lw) 34 59 (l0 :: l1 :: l2 :: .val (.int x) :: L) S k n H Q ↔ W (pj lw) 34 60 (l0 :: l1 :: l2 :: .val (.int x) :: L) (.int x :: S) k n H Q := W_s (rfl : (pj lw).1 34 59 = some (.iload_n 3, 1, 0)) rfl rfl rfl
theorem w34_60 {i : Int32} {a : Nat} : W (pj lw) 34 60 L (.int i :: .ref a :: S) k n H Q ↔ (inA H a .int i = true ∧ W (pj lw) 34 61 L (elt H a i :: S) k n H Q) := W_iaload (rfl : (pj lw).1 34 60 = some (.iaload, 1, 0))
theorem w34_61 {a : Nat} {x0 : Int32} : W (pj lw) 34 61 L (.int x0 :: .ref a :: S) k n H Q ↔ ((isO H a = true ∧ cs S + (2 + 11) + 0 ≤ 13) ∧ Cl (pj lw) 22 [.ref a, .int x0] H (fun v H => W (pj lw) 34 64 L (v.toList ++ S) k n H Q)) := W_inst (as := [.int x0]) (rfl : (pj lw).1 34 61 = some (.invokevirtual 128, 3, 22)) rfl rfl rfl (Nat.le_of_ble_eq_true rfl) (Nat.le_of_ble_eq_true rfl) ⟨rfl, rfl⟩
theorem w34_64 {x : Int32} : W (pj lw) 34 64 L (.int x :: S) k n H Q ↔ (if x = 0 then W (pj lw) 34 85 L S k n H Q else W (pj lw) 34 67 L S k n H Q) := W_if_eq (rfl : (pj lw).1 34 64 = some (.ifCond .eq 21, 3, 0)) rfl
theorem w34_67 {x : Int32} {l0 l1 : Slot} : W (pj lw) 34 67 (l0 :: l1 :: .val (.int x) :: L) S k n H Q ↔ W (pj lw) 34 68 (l0 :: l1 :: .val (.int x) :: L) (.int x :: S) k n H Q := W_s (rfl : (pj lw).1 34 67 = some (.iload_n 2, 1, 0)) rfl rfl rfl
theorem w34_68 : W (pj lw) 34 68 L S k n H Q ↔ W (pj lw) 34 70 L (.int 10 :: S) k n H Q := W_s (rfl : (pj lw).1 34 68 = some (.bipush 10, 2, 0)) rfl rfl rfl
theorem w34_70 {x y : Int32} : W (pj lw) 34 70 L (.int y :: .int x :: S) k n H Q ↔ W (pj lw) 34 71 L (.int (x * y) :: S) k n H Q := W_s (rfl : (pj lw).1 34 70 = some (.imul, 1, 0)) rfl rfl rfl
theorem w34_71 {x : Nat} : W (pj lw) 34 71 (.val (.ref x) :: L) S k n H Q ↔ W (pj lw) 34 72 (.val (.ref x) :: L) (.ref x :: S) k n H Q := W_s (rfl : (pj lw).1 34 71 = some (.aload_n 0, 1, 0)) rfl rfl rfl
theorem w34_72 {a : Nat} : W (pj lw) 34 72 L (.ref a :: S) k n H Q ↔ (isO H a = true ∧ W (pj lw) 34 75 L (fld H a 2 :: S) k n H Q) := W_getf (rfl : (pj lw).1 34 72 = some (.getfield 7, 3, 2))
theorem w34_75 {x : Int32} {l0 l1 l2 : Slot} : W (pj lw) 34 75 (l0 :: l1 :: l2 :: .val (.int x) :: L) S k n H Q ↔ W (pj lw) 34 76 (l0 :: l1 :: l2 :: .val (.int x) :: L) (.int x :: S) k n H Q := W_s (rfl : (pj lw).1 34 75 = some (.iload_n 3, 1, 0)) rfl rfl rfl
theorem w34_76 {i : Int32} {a : Nat} : W (pj lw) 34 76 L (.int i :: .ref a :: S) k n H Q ↔ (inA H a .int i = true ∧ W (pj lw) 34 77 L (elt H a i :: S) k n H Q) := W_iaload (rfl : (pj lw).1 34 76 = some (.iaload, 1, 0))
theorem w34_77 : W (pj lw) 34 77 L S k n H Q ↔ W (pj lw) 34 79 L (.int 48 :: S) k n H Q := W_s (rfl : (pj lw).1 34 77 = some (.bipush 48, 2, 0)) rfl rfl rfl
theorem w34_79 {x y : Int32} : W (pj lw) 34 79 L (.int y :: .int x :: S) k n H Q ↔ W (pj lw) 34 80 L (.int (x - y) :: S) k n H Q := W_s (rfl : (pj lw).1 34 79 = some (.isub, 1, 0)) rfl rfl rfl
theorem w34_80 {x y : Int32} : W (pj lw) 34 80 L (.int y :: .int x :: S) k n H Q ↔ W (pj lw) 34 81 L (.int (x + y) :: S) k n H Q := W_s (rfl : (pj lw).1 34 80 = some (.iadd, 1, 0)) rfl rfl rfl
theorem w34_81i {y : Int32} {x : Int32} {l0 l1 : Slot} : W (pj lw) 34 81 (l0 :: l1 :: .val (.int y) :: L) (.int x :: S) k n H Q ↔ W (pj lw) 34 82 (l0 :: l1 :: .val (.int x) :: L) S k n H Q := W_istn (rfl : (pj lw).1 34 81 = some (.istore_n 2, 1, 0)) rfl rfl
theorem w34_82 {x : Int32} {l0 l1 l2 : Slot} : W (pj lw) 34 82 (l0 :: l1 :: l2 :: .val (.int x) :: L) S k n H Q ↔ W (pj lw) 34 85 (l0 :: l1 :: l2 :: .val (.int (x + 1)) :: L) S k n H Q := W_s (rfl : (pj lw).1 34 82 = some (.iinc 3 1, 3, 0)) rfl rfl rfl
theorem w34_85 {x : Nat} : W (pj lw) 34 85 (.val (.ref x) :: L) S k n H Q ↔ W (pj lw) 34 86 (.val (.ref x) :: L) (.ref x :: S) k n H Q := W_s (rfl : (pj lw).1 34 85 = some (.aload_n 0, 1, 0)) rfl rfl rfl
theorem w34_86 {x : Int32} {l0 l1 l2 : Slot} : W (pj lw) 34 86 (l0 :: l1 :: l2 :: .val (.int x) :: L) S k n H Q ↔ W (pj lw) 34 87 (l0 :: l1 :: l2 :: .val (.int x) :: L) (.int x :: S) k n H Q := W_s (rfl : (pj lw).1 34 86 = some (.iload_n 3, 1, 0)) rfl rfl rfl
theorem w34_87 {a : Nat} {v : Value} : W (pj lw) 34 87 L (v :: .ref a :: S) k n H Q ↔ ((isOw H a = true ∧ okv (.int) v = true) ∧ W (pj lw) 34 90 L S k n (wr H a 9 v) Q) := W_putf (rfl : (pj lw).1 34 87 = some (.putfield 158, 3, 9))
theorem w34_90 {x : Int32} {l0 l1 : Slot} : W (pj lw) 34 90 (l0 :: l1 :: .val (.int x) :: L) S k n H Q ↔ W (pj lw) 34 91 (l0 :: l1 :: .val (.int x) :: L) (.int x :: S) k n H Q := W_s (rfl : (pj lw).1 34 90 = some (.iload_n 2, 1, 0)) rfl rfl rfl
theorem w34_91 {x : Int32} : W (pj lw) 34 91 L (.int x :: S) k n H Q ↔ Q (some (.int x)) H := W_r (rfl : (pj lw).1 34 91 = some (.ireturn, 1, 0)) rfl
theorem c35 {x0 : Nat} {x1 : Int32} : Cl (pj lw) 35 [.ref x0, .int x1] H Q ↔ W (pj lw) 35 0 [.val (.ref x0), .val (.int x1), .unset] [] 0 0 H Q := cl_unf rfl
theorem w35_0 : W (pj lw) 35 0 L S k n H Q ↔ W (pj lw) 35 1 L (.int 0 :: S) k n H Q := W_s (rfl : (pj lw).1 35 0 = some (.iconst 0, 1, 0)) rfl rfl rfl
theorem w35_1 {x : Int32} {l0 l1 : Slot} : W (pj lw) 35 1 (l0 :: l1 :: .unset :: L) (.int x :: S) k n H Q ↔ W (pj lw) 35 2 (l0 :: l1 :: .val (.int x) :: L) S k n H Q := W_istn (rfl : (pj lw).1 35 1 = some (.istore_n 2, 1, 0)) rfl rfl
theorem w35_2 {x : Int32} {l0 l1 : Slot} : W (pj lw) 35 2 (l0 :: l1 :: .val (.int x) :: L) S k n H Q ↔ W (pj lw) 35 3 (l0 :: l1 :: .val (.int x) :: L) (.int x :: S) k n H Q := W_s (rfl : (pj lw).1 35 2 = some (.iload_n 2, 1, 0)) rfl rfl rfl
theorem w35_3 {x : Nat} : W (pj lw) 35 3 (.val (.ref x) :: L) S k n H Q ↔ W (pj lw) 35 4 (.val (.ref x) :: L) (.ref x :: S) k n H Q := W_s (rfl : (pj lw).1 35 3 = some (.aload_n 0, 1, 0)) rfl rfl rfl
theorem w35_4 {a : Nat} : W (pj lw) 35 4 L (.ref a :: S) k n H Q ↔ (isO H a = true ∧ W (pj lw) 35 7 L (fld H a 13 :: S) k n H Q) := W_getf (rfl : (pj lw).1 35 4 = some (.getfield 93, 3, 13))
theorem w35_7 {x y : Int32} : W (pj lw) 35 7 L (.int y :: .int x :: S) k n H Q ↔ (if x < y then W (pj lw) 35 10 L S k n H Q else W (pj lw) 35 34 L S k n H Q) := W_icmp_ge (rfl : (pj lw).1 35 7 = some (.if_icmp .ge 27, 3, 0)) rfl
theorem w35_10 {x : Int32} {l0 l1 : Slot} : W (pj lw) 35 10 (l0 :: l1 :: .val (.int x) :: L) S k n H Q ↔ W (pj lw) 35 11 (l0 :: l1 :: .val (.int x) :: L) (.int x :: S) k n H Q := W_s (rfl : (pj lw).1 35 10 = some (.iload_n 2, 1, 0)) rfl rfl rfl
theorem w35_11 : W (pj lw) 35 11 L S k n H Q ↔ W (pj lw) 35 13 L (.int 8 :: S) k n H Q := W_s (rfl : (pj lw).1 35 11 = some (.bipush 8, 2, 0)) rfl rfl rfl
theorem w35_13 {x y : Int32} : W (pj lw) 35 13 L (.int y :: .int x :: S) k n H Q ↔ (if x < y then W (pj lw) 35 16 L S k n H Q else W (pj lw) 35 34 L S k n H Q) := W_icmp_ge (rfl : (pj lw).1 35 13 = some (.if_icmp .ge 21, 3, 0)) rfl
theorem w35_16 {x : Nat} : W (pj lw) 35 16 (.val (.ref x) :: L) S k n H Q ↔ W (pj lw) 35 17 (.val (.ref x) :: L) (.ref x :: S) k n H Q := W_s (rfl : (pj lw).1 35 16 = some (.aload_n 0, 1, 0)) rfl rfl rfl
theorem w35_17 {a : Nat} : W (pj lw) 35 17 L (.ref a :: S) k n H Q ↔ (isO H a = true ∧ W (pj lw) 35 20 L (fld H a 14 :: S) k n H Q) := W_getf (rfl : (pj lw).1 35 17 = some (.getfield 19, 3, 14))
theorem w35_20 {x : Int32} {l0 l1 : Slot} : W (pj lw) 35 20 (l0 :: l1 :: .val (.int x) :: L) S k n H Q ↔ W (pj lw) 35 21 (l0 :: l1 :: .val (.int x) :: L) (.int x :: S) k n H Q := W_s (rfl : (pj lw).1 35 20 = some (.iload_n 2, 1, 0)) rfl rfl rfl
theorem w35_21 {i : Int32} {a : Nat} : W (pj lw) 35 21 L (.int i :: .ref a :: S) k n H Q ↔ (inA H a .int i = true ∧ W (pj lw) 35 22 L (elt H a i :: S) k n H Q) := W_iaload (rfl : (pj lw).1 35 21 = some (.iaload, 1, 0))
theorem w35_22 {x : Int32} {l0 : Slot} : W (pj lw) 35 22 (l0 :: .val (.int x) :: L) S k n H Q ↔ W (pj lw) 35 23 (l0 :: .val (.int x) :: L) (.int x :: S) k n H Q := W_s (rfl : (pj lw).1 35 22 = some (.iload_n 1, 1, 0)) rfl rfl rfl
theorem w35_23 {x y : Int32} : W (pj lw) 35 23 L (.int y :: .int x :: S) k n H Q ↔ (if x = y then W (pj lw) 35 26 L S k n H Q else W (pj lw) 35 28 L S k n H Q) := W_icmp_ne (rfl : (pj lw).1 35 23 = some (.if_icmp .ne 5, 3, 0)) rfl
theorem w35_26 {x : Int32} {l0 l1 : Slot} : W (pj lw) 35 26 (l0 :: l1 :: .val (.int x) :: L) S k n H Q ↔ W (pj lw) 35 27 (l0 :: l1 :: .val (.int x) :: L) (.int x :: S) k n H Q := W_s (rfl : (pj lw).1 35 26 = some (.iload_n 2, 1, 0)) rfl rfl rfl
theorem w35_27 {x : Int32} : W (pj lw) 35 27 L (.int x :: S) k n H Q ↔ Q (some (.int x)) H := W_r (rfl : (pj lw).1 35 27 = some (.ireturn, 1, 0)) rfl
theorem w35_28 {x : Int32} {l0 l1 : Slot} : W (pj lw) 35 28 (l0 :: l1 :: .val (.int x) :: L) S k n H Q ↔ W (pj lw) 35 31 (l0 :: l1 :: .val (.int (x + 1)) :: L) S k n H Q := W_s (rfl : (pj lw).1 35 28 = some (.iinc 2 1, 3, 0)) rfl rfl rfl
theorem w35_31 : W (pj lw) 35 31 L S k n H Q ↔ W (pj lw) 35 2 L S k n H Q := W_goto (rfl : (pj lw).1 35 31 = some (.goto (-29), 3, 0)) rfl
theorem w35_34 : W (pj lw) 35 34 L S k n H Q ↔ W (pj lw) 35 35 L (.int (-1) :: S) k n H Q := W_s (rfl : (pj lw).1 35 34 = some (.iconst (-1), 1, 0)) rfl rfl rfl
theorem w35_35 {x : Int32} : W (pj lw) 35 35 L (.int x :: S) k n H Q ↔ Q (some (.int x)) H := W_r (rfl : (pj lw).1 35 35 = some (.ireturn, 1, 0)) rfl
theorem c36 {x0 : Nat} : Cl (pj lw) 36 [.ref x0] H Q ↔ W (pj lw) 36 0 [.val (.ref x0), .unset, .unset, .unset, .unset] [] 0 0 H Q := cl_unf rfl
theorem w36_0 : W (pj lw) 36 0 L S k n H Q ↔ W (pj lw) 36 1 L (.int 0 :: S) k n H Q := W_s (rfl : (pj lw).1 36 0 = some (.iconst 0, 1, 0)) rfl rfl rfl
theorem w36_1 {x : Int32} {l0 : Slot} : W (pj lw) 36 1 (l0 :: .unset :: L) (.int x :: S) k n H Q ↔ W (pj lw) 36 2 (l0 :: .val (.int x) :: L) S k n H Q := W_istn (rfl : (pj lw).1 36 1 = some (.istore_n 1, 1, 0)) rfl rfl
theorem w36_2 {x : Int32} {l0 : Slot} : W (pj lw) 36 2 (l0 :: .val (.int x) :: L) S k n H Q ↔ W (pj lw) 36 3 (l0 :: .val (.int x) :: L) (.int x :: S) k n H Q := W_s (rfl : (pj lw).1 36 2 = some (.iload_n 1, 1, 0)) rfl rfl rfl
theorem w36_3 : W (pj lw) 36 3 L S k n H Q ↔ W (pj lw) 36 5 L (.int 6 :: S) k n H Q := W_s (rfl : (pj lw).1 36 3 = some (.bipush 6, 2, 0)) rfl rfl rfl
theorem w36_5 {x y : Int32} : W (pj lw) 36 5 L (.int y :: .int x :: S) k n H Q ↔ (if x < y then W (pj lw) 36 8 L S k n H Q else W (pj lw) 36 99 L S k n H Q) := W_icmp_ge (rfl : (pj lw).1 36 5 = some (.if_icmp .ge 94, 3, 0)) rfl
theorem w36_8 : W (pj lw) 36 8 L S k n H Q ↔ W (pj lw) 36 9 L (.int 0 :: S) k n H Q := W_s (rfl : (pj lw).1 36 8 = some (.iconst 0, 1, 0)) rfl rfl rfl
theorem w36_9i {y : Int32} {x : Int32} {l0 l1 : Slot} : W (pj lw) 36 9 (l0 :: l1 :: .val (.int y) :: L) (.int x :: S) k n H Q ↔ W (pj lw) 36 10 (l0 :: l1 :: .val (.int x) :: L) S k n H Q := W_istn (rfl : (pj lw).1 36 9 = some (.istore_n 2, 1, 0)) rfl rfl
theorem w36_9 {x : Int32} {l0 l1 : Slot} : W (pj lw) 36 9 (l0 :: l1 :: .unset :: L) (.int x :: S) k n H Q ↔ W (pj lw) 36 10 (l0 :: l1 :: .val (.int x) :: L) S k n H Q := W_istn (rfl : (pj lw).1 36 9 = some (.istore_n 2, 1, 0)) rfl rfl
theorem w36_10 {x : Int32} {l0 l1 : Slot} : W (pj lw) 36 10 (l0 :: l1 :: .val (.int x) :: L) S k n H Q ↔ W (pj lw) 36 11 (l0 :: l1 :: .val (.int x) :: L) (.int x :: S) k n H Q := W_s (rfl : (pj lw).1 36 10 = some (.iload_n 2, 1, 0)) rfl rfl rfl
theorem w36_11 : W (pj lw) 36 11 L S k n H Q ↔ W (pj lw) 36 13 L (.int 8 :: S) k n H Q := W_s (rfl : (pj lw).1 36 11 = some (.bipush 8, 2, 0)) rfl rfl rfl
theorem w36_13 {x y : Int32} : W (pj lw) 36 13 L (.int y :: .int x :: S) k n H Q ↔ (if x < y then W (pj lw) 36 16 L S k n H Q else W (pj lw) 36 93 L S k n H Q) := W_icmp_ge (rfl : (pj lw).1 36 13 = some (.if_icmp .ge 80, 3, 0)) rfl
theorem w36_16 {x : Nat} : W (pj lw) 36 16 (.val (.ref x) :: L) S k n H Q ↔ W (pj lw) 36 17 (.val (.ref x) :: L) (.ref x :: S) k n H Q := W_s (rfl : (pj lw).1 36 16 = some (.aload_n 0, 1, 0)) rfl rfl rfl
theorem w36_17 {a : Nat} : W (pj lw) 36 17 L (.ref a :: S) k n H Q ↔ (isO H a = true ∧ W (pj lw) 36 20 L (fld H a 19 :: S) k n H Q) := W_getf (rfl : (pj lw).1 36 17 = some (.getfield 35, 3, 19))
theorem w36_20 {x : Int32} {l0 : Slot} : W (pj lw) 36 20 (l0 :: .val (.int x) :: L) S k n H Q ↔ W (pj lw) 36 21 (l0 :: .val (.int x) :: L) (.int x :: S) k n H Q := W_s (rfl : (pj lw).1 36 20 = some (.iload_n 1, 1, 0)) rfl rfl rfl
theorem w36_21 : W (pj lw) 36 21 L S k n H Q ↔ W (pj lw) 36 23 L (.int 8 :: S) k n H Q := W_s (rfl : (pj lw).1 36 21 = some (.bipush 8, 2, 0)) rfl rfl rfl
theorem w36_23 {x y : Int32} : W (pj lw) 36 23 L (.int y :: .int x :: S) k n H Q ↔ W (pj lw) 36 24 L (.int (x * y) :: S) k n H Q := W_s (rfl : (pj lw).1 36 23 = some (.imul, 1, 0)) rfl rfl rfl
theorem w36_24 {x : Int32} {l0 l1 : Slot} : W (pj lw) 36 24 (l0 :: l1 :: .val (.int x) :: L) S k n H Q ↔ W (pj lw) 36 25 (l0 :: l1 :: .val (.int x) :: L) (.int x :: S) k n H Q := W_s (rfl : (pj lw).1 36 24 = some (.iload_n 2, 1, 0)) rfl rfl rfl
theorem w36_25 {x y : Int32} : W (pj lw) 36 25 L (.int y :: .int x :: S) k n H Q ↔ W (pj lw) 36 26 L (.int (x + y) :: S) k n H Q := W_s (rfl : (pj lw).1 36 25 = some (.iadd, 1, 0)) rfl rfl rfl
theorem w36_26 {i : Int32} {a : Nat} : W (pj lw) 36 26 L (.int i :: .ref a :: S) k n H Q ↔ (inA H a .long i = true ∧ W (pj lw) 36 27 L (elt H a i :: S) k n H Q) := W_laload (rfl : (pj lw).1 36 26 = some (.laload, 1, 0))
theorem w36_27j {x y : Int64} {l0 l1 l2 : Slot} : W (pj lw) 36 27 (l0 :: l1 :: l2 :: .val (.long y) :: .second :: L) (.long x :: S) k n H Q ↔ W (pj lw) 36 28 (l0 :: l1 :: l2 :: .val (.long x) :: .second :: L) S k n H Q := W_lstn' (rfl : (pj lw).1 36 27 = some (.lstore_n 3, 1, 0)) rfl rfl
theorem w36_27uu {x : Int64} {l0 l1 l2 : Slot} : W (pj lw) 36 27 (l0 :: l1 :: l2 :: .unset :: .unset :: L) (.long x :: S) k n H Q ↔ W (pj lw) 36 28 (l0 :: l1 :: l2 :: .val (.long x) :: .second :: L) S k n H Q := W_lstn (rfl : (pj lw).1 36 27 = some (.lstore_n 3, 1, 0)) rfl rfl rfl rfl
theorem w36_28 {x : Int32} {l0 : Slot} : W (pj lw) 36 28 (l0 :: .val (.int x) :: L) S k n H Q ↔ W (pj lw) 36 29 (l0 :: .val (.int x) :: L) (.int x :: S) k n H Q := W_s (rfl : (pj lw).1 36 28 = some (.iload_n 1, 1, 0)) rfl rfl rfl
theorem w36_29 {x : Nat} : W (pj lw) 36 29 (.val (.ref x) :: L) S k n H Q ↔ W (pj lw) 36 30 (.val (.ref x) :: L) (.ref x :: S) k n H Q := W_s (rfl : (pj lw).1 36 29 = some (.aload_n 0, 1, 0)) rfl rfl rfl
theorem w36_30 {a : Nat} : W (pj lw) 36 30 L (.ref a :: S) k n H Q ↔ (isO H a = true ∧ W (pj lw) 36 33 L (fld H a 11 :: S) k n H Q) := W_getf (rfl : (pj lw).1 36 30 = some (.getfield 84, 3, 11))
theorem w36_33 {x y : Int32} : W (pj lw) 36 33 L (.int y :: .int x :: S) k n H Q ↔ (if x < y then W (pj lw) 36 36 L S k n H Q else W (pj lw) 36 54 L S k n H Q) := W_icmp_ge (rfl : (pj lw).1 36 33 = some (.if_icmp .ge 21, 3, 0)) rfl
theorem w36_36 {x : Int32} {l0 l1 : Slot} : W (pj lw) 36 36 (l0 :: l1 :: .val (.int x) :: L) S k n H Q ↔ W (pj lw) 36 37 (l0 :: l1 :: .val (.int x) :: L) (.int x :: S) k n H Q := W_s (rfl : (pj lw).1 36 36 = some (.iload_n 2, 1, 0)) rfl rfl rfl
theorem w36_37 {x : Nat} : W (pj lw) 36 37 (.val (.ref x) :: L) S k n H Q ↔ W (pj lw) 36 38 (.val (.ref x) :: L) (.ref x :: S) k n H Q := W_s (rfl : (pj lw).1 36 37 = some (.aload_n 0, 1, 0)) rfl rfl rfl
theorem w36_38 {a : Nat} : W (pj lw) 36 38 L (.ref a :: S) k n H Q ↔ (isO H a = true ∧ W (pj lw) 36 41 L (fld H a 13 :: S) k n H Q) := W_getf (rfl : (pj lw).1 36 38 = some (.getfield 93, 3, 13))
theorem w36_41 {x y : Int32} : W (pj lw) 36 41 L (.int y :: .int x :: S) k n H Q ↔ (if x < y then W (pj lw) 36 44 L S k n H Q else W (pj lw) 36 54 L S k n H Q) := W_icmp_ge (rfl : (pj lw).1 36 41 = some (.if_icmp .ge 13, 3, 0)) rfl
theorem w36_44 {x : Int64} {l0 l1 l2 : Slot} : W (pj lw) 36 44 (l0 :: l1 :: l2 :: .val (.long x) :: L) S k n H Q ↔ W (pj lw) 36 45 (l0 :: l1 :: l2 :: .val (.long x) :: L) (.long x :: S) k n H Q := W_s (rfl : (pj lw).1 36 44 = some (.lload_n 3, 1, 0)) rfl rfl rfl
theorem w36_45 : W (pj lw) 36 45 L S k n H Q ↔ W (pj lw) 36 48 L (.long 24 :: S) k n H Q := W_s (rfl : (pj lw).1 36 45 = some (.ldc2_w 167, 3, 24)) rfl rfl rfl
theorem w36_48 {x y : Int64} : W (pj lw) 36 48 L (.long y :: .long x :: S) k n H Q ↔ W (pj lw) 36 49 L (.int (Jvm.Free.XT.cmpL x y) :: S) k n H Q := W_s (rfl : (pj lw).1 36 48 = some (.lcmp, 1, 0)) rfl rfl rfl
theorem w36_49 {x : Int32} : W (pj lw) 36 49 L (.int x :: S) k n H Q ↔ (if 0 < x then W (pj lw) 36 52 L S k n H Q else W (pj lw) 36 54 L S k n H Q) := W_if_le (rfl : (pj lw).1 36 49 = some (.ifCond .le 5, 3, 0)) rfl
theorem w36_52 : W (pj lw) 36 52 L S k n H Q ↔ W (pj lw) 36 53 L (.int 0 :: S) k n H Q := W_s (rfl : (pj lw).1 36 52 = some (.iconst 0, 1, 0)) rfl rfl rfl
theorem w36_53 {x : Int32} : W (pj lw) 36 53 L (.int x :: S) k n H Q ↔ ((x = 0 ∨ x = 1) ∧ Q (some (.int x)) H) := W_rz (rfl : (pj lw).1 36 53 = some (.ireturn, 1, 0)) rfl
theorem w36_54 {x : Nat} : W (pj lw) 36 54 (.val (.ref x) :: L) S k n H Q ↔ W (pj lw) 36 55 (.val (.ref x) :: L) (.ref x :: S) k n H Q := W_s (rfl : (pj lw).1 36 54 = some (.aload_n 0, 1, 0)) rfl rfl rfl
theorem w36_55 {a : Nat} : W (pj lw) 36 55 L (.ref a :: S) k n H Q ↔ (isO H a = true ∧ W (pj lw) 36 58 L (fld H a 15 :: S) k n H Q) := W_getf (rfl : (pj lw).1 36 55 = some (.getfield 22, 3, 15))
theorem w36_58 {x : Int32} {l0 : Slot} : W (pj lw) 36 58 (l0 :: .val (.int x) :: L) S k n H Q ↔ W (pj lw) 36 59 (l0 :: .val (.int x) :: L) (.int x :: S) k n H Q := W_s (rfl : (pj lw).1 36 58 = some (.iload_n 1, 1, 0)) rfl rfl rfl
theorem w36_59 : W (pj lw) 36 59 L S k n H Q ↔ W (pj lw) 36 61 L (.int 8 :: S) k n H Q := W_s (rfl : (pj lw).1 36 59 = some (.bipush 8, 2, 0)) rfl rfl rfl
theorem w36_61 {x y : Int32} : W (pj lw) 36 61 L (.int y :: .int x :: S) k n H Q ↔ W (pj lw) 36 62 L (.int (x * y) :: S) k n H Q := W_s (rfl : (pj lw).1 36 61 = some (.imul, 1, 0)) rfl rfl rfl
theorem w36_62 {x : Int32} {l0 l1 : Slot} : W (pj lw) 36 62 (l0 :: l1 :: .val (.int x) :: L) S k n H Q ↔ W (pj lw) 36 63 (l0 :: l1 :: .val (.int x) :: L) (.int x :: S) k n H Q := W_s (rfl : (pj lw).1 36 62 = some (.iload_n 2, 1, 0)) rfl rfl rfl
theorem w36_63 {x y : Int32} : W (pj lw) 36 63 L (.int y :: .int x :: S) k n H Q ↔ W (pj lw) 36 64 L (.int (x + y) :: S) k n H Q := W_s (rfl : (pj lw).1 36 63 = some (.iadd, 1, 0)) rfl rfl rfl
theorem w36_64 {x : Int32} {l0 : Slot} : W (pj lw) 36 64 (l0 :: .val (.int x) :: L) S k n H Q ↔ W (pj lw) 36 65 (l0 :: .val (.int x) :: L) (.int x :: S) k n H Q := W_s (rfl : (pj lw).1 36 64 = some (.iload_n 1, 1, 0)) rfl rfl rfl
theorem w36_65 {x : Nat} : W (pj lw) 36 65 (.val (.ref x) :: L) S k n H Q ↔ W (pj lw) 36 66 (.val (.ref x) :: L) (.ref x :: S) k n H Q := W_s (rfl : (pj lw).1 36 65 = some (.aload_n 0, 1, 0)) rfl rfl rfl
theorem w36_66 {a : Nat} : W (pj lw) 36 66 L (.ref a :: S) k n H Q ↔ (isO H a = true ∧ W (pj lw) 36 69 L (fld H a 11 :: S) k n H Q) := W_getf (rfl : (pj lw).1 36 66 = some (.getfield 84, 3, 11))
theorem w36_69 {x y : Int32} : W (pj lw) 36 69 L (.int y :: .int x :: S) k n H Q ↔ (if x < y then W (pj lw) 36 72 L S k n H Q else W (pj lw) 36 85 L S k n H Q) := W_icmp_ge (rfl : (pj lw).1 36 69 = some (.if_icmp .ge 16, 3, 0)) rfl
theorem w36_72 {x : Int32} {l0 l1 : Slot} : W (pj lw) 36 72 (l0 :: l1 :: .val (.int x) :: L) S k n H Q ↔ W (pj lw) 36 73 (l0 :: l1 :: .val (.int x) :: L) (.int x :: S) k n H Q := W_s (rfl : (pj lw).1 36 72 = some (.iload_n 2, 1, 0)) rfl rfl rfl
theorem w36_73 {x : Nat} : W (pj lw) 36 73 (.val (.ref x) :: L) S k n H Q ↔ W (pj lw) 36 74 (.val (.ref x) :: L) (.ref x :: S) k n H Q := W_s (rfl : (pj lw).1 36 73 = some (.aload_n 0, 1, 0)) rfl rfl rfl
theorem w36_74 {a : Nat} : W (pj lw) 36 74 L (.ref a :: S) k n H Q ↔ (isO H a = true ∧ W (pj lw) 36 77 L (fld H a 13 :: S) k n H Q) := W_getf (rfl : (pj lw).1 36 74 = some (.getfield 93, 3, 13))
theorem w36_77 {x y : Int32} : W (pj lw) 36 77 L (.int y :: .int x :: S) k n H Q ↔ (if x < y then W (pj lw) 36 80 L S k n H Q else W (pj lw) 36 85 L S k n H Q) := W_icmp_ge (rfl : (pj lw).1 36 77 = some (.if_icmp .ge 8, 3, 0)) rfl
theorem w36_80 {x : Int64} {l0 l1 l2 : Slot} : W (pj lw) 36 80 (l0 :: l1 :: l2 :: .val (.long x) :: L) S k n H Q ↔ W (pj lw) 36 81 (l0 :: l1 :: l2 :: .val (.long x) :: L) (.long x :: S) k n H Q := W_s (rfl : (pj lw).1 36 80 = some (.lload_n 3, 1, 0)) rfl rfl rfl
theorem w36_81 {x : Int64} : W (pj lw) 36 81 L (.long x :: S) k n H Q ↔ W (pj lw) 36 82 L (.int x.toInt32 :: S) k n H Q := W_s (rfl : (pj lw).1 36 81 = some (.l2i, 1, 0)) rfl rfl rfl
theorem w36_82 : W (pj lw) 36 82 L S k n H Q ↔ W (pj lw) 36 86 L S k n H Q := W_goto (rfl : (pj lw).1 36 82 = some (.goto 4, 3, 0)) rfl
theorem w36_85 : W (pj lw) 36 85 L S k n H Q ↔ W (pj lw) 36 86 L (.int 0 :: S) k n H Q := W_s (rfl : (pj lw).1 36 85 = some (.iconst 0, 1, 0)) rfl rfl rfl
theorem w36_86 {x i : Int32} {a : Nat} : W (pj lw) 36 86 L (.int x :: .int i :: .ref a :: S) k n H Q ↔ (inAw H a .int i = true ∧ W (pj lw) 36 87 L S k n (wr H a i.toNatClampNeg (.int x)) Q) := W_iastore (rfl : (pj lw).1 36 86 = some (.iastore, 1, 0))
theorem w36_87 {x : Int32} {l0 l1 : Slot} : W (pj lw) 36 87 (l0 :: l1 :: .val (.int x) :: L) S k n H Q ↔ W (pj lw) 36 90 (l0 :: l1 :: .val (.int (x + 1)) :: L) S k n H Q := W_s (rfl : (pj lw).1 36 87 = some (.iinc 2 1, 3, 0)) rfl rfl rfl
theorem w36_90 : W (pj lw) 36 90 L S k n H Q ↔ W (pj lw) 36 10 L S k n H Q := W_goto (rfl : (pj lw).1 36 90 = some (.goto (-80), 3, 0)) rfl
theorem w36_93 {x : Int32} {l0 : Slot} : W (pj lw) 36 93 (l0 :: .val (.int x) :: L) S k n H Q ↔ W (pj lw) 36 96 (l0 :: .val (.int (x + 1)) :: L) S k n H Q := W_s (rfl : (pj lw).1 36 93 = some (.iinc 1 1, 3, 0)) rfl rfl rfl
theorem w36_96 : W (pj lw) 36 96 L S k n H Q ↔ W (pj lw) 36 2 L S k n H Q := W_goto (rfl : (pj lw).1 36 96 = some (.goto (-94), 3, 0)) rfl
theorem w36_99 : W (pj lw) 36 99 L S k n H Q ↔ W (pj lw) 36 100 L (.int 1 :: S) k n H Q := W_s (rfl : (pj lw).1 36 99 = some (.iconst 1, 1, 0)) rfl rfl rfl
theorem w36_100 {x : Int32} : W (pj lw) 36 100 L (.int x :: S) k n H Q ↔ ((x = 0 ∨ x = 1) ∧ Q (some (.int x)) H) := W_rz (rfl : (pj lw).1 36 100 = some (.ireturn, 1, 0)) rfl
theorem c37 {x0 : Nat} : Cl (pj lw) 37 [.ref x0] H Q ↔ W (pj lw) 37 0 [.val (.ref x0), .unset, .unset, .unset, .unset] [] 0 0 H Q := cl_unf rfl
theorem w37_0 : W (pj lw) 37 0 L S k n H Q ↔ W (pj lw) 37 1 L (.int 0 :: S) k n H Q := W_s (rfl : (pj lw).1 37 0 = some (.iconst 0, 1, 0)) rfl rfl rfl
theorem w37_1 {x : Int32} {l0 : Slot} : W (pj lw) 37 1 (l0 :: .unset :: L) (.int x :: S) k n H Q ↔ W (pj lw) 37 2 (l0 :: .val (.int x) :: L) S k n H Q := W_istn (rfl : (pj lw).1 37 1 = some (.istore_n 1, 1, 0)) rfl rfl
theorem w37_2 {x : Int32} {l0 : Slot} : W (pj lw) 37 2 (l0 :: .val (.int x) :: L) S k n H Q ↔ W (pj lw) 37 3 (l0 :: .val (.int x) :: L) (.int x :: S) k n H Q := W_s (rfl : (pj lw).1 37 2 = some (.iload_n 1, 1, 0)) rfl rfl rfl
theorem w37_3 : W (pj lw) 37 3 L S k n H Q ↔ W (pj lw) 37 5 L (.int 54 :: S) k n H Q := W_s (rfl : (pj lw).1 37 3 = some (.bipush 54, 2, 0)) rfl rfl rfl
theorem w37_5 {x y : Int32} : W (pj lw) 37 5 L (.int y :: .int x :: S) k n H Q ↔ (if x < y then W (pj lw) 37 8 L S k n H Q else W (pj lw) 37 28 L S k n H Q) := W_icmp_ge (rfl : (pj lw).1 37 5 = some (.if_icmp .ge 23, 3, 0)) rfl
theorem w37_8 {x : Nat} : W (pj lw) 37 8 (.val (.ref x) :: L) S k n H Q ↔ W (pj lw) 37 9 (.val (.ref x) :: L) (.ref x :: S) k n H Q := W_s (rfl : (pj lw).1 37 8 = some (.aload_n 0, 1, 0)) rfl rfl rfl
theorem w37_9 {a : Nat} : W (pj lw) 37 9 L (.ref a :: S) k n H Q ↔ (isO H a = true ∧ W (pj lw) 37 12 L (fld H a 21 :: S) k n H Q) := W_getf (rfl : (pj lw).1 37 9 = some (.getfield 41, 3, 21))
theorem w37_12 {x : Int32} {l0 : Slot} : W (pj lw) 37 12 (l0 :: .val (.int x) :: L) S k n H Q ↔ W (pj lw) 37 13 (l0 :: .val (.int x) :: L) (.int x :: S) k n H Q := W_s (rfl : (pj lw).1 37 12 = some (.iload_n 1, 1, 0)) rfl rfl rfl
theorem w37_13 : W (pj lw) 37 13 L S k n H Q ↔ W (pj lw) 37 14 L (.long 0 :: S) k n H Q := W_s (rfl : (pj lw).1 37 13 = some (.lconst 0, 1, 0)) rfl rfl rfl
theorem w37_14 {x : Int64} {i : Int32} {a : Nat} : W (pj lw) 37 14 L (.long x :: .int i :: .ref a :: S) k n H Q ↔ (inAw H a .long i = true ∧ W (pj lw) 37 15 L S k n (wr H a i.toNatClampNeg (.long x)) Q) := W_lastore (rfl : (pj lw).1 37 14 = some (.lastore, 1, 0))
theorem w37_15 {x : Nat} : W (pj lw) 37 15 (.val (.ref x) :: L) S k n H Q ↔ W (pj lw) 37 16 (.val (.ref x) :: L) (.ref x :: S) k n H Q := W_s (rfl : (pj lw).1 37 15 = some (.aload_n 0, 1, 0)) rfl rfl rfl
theorem w37_16 {a : Nat} : W (pj lw) 37 16 L (.ref a :: S) k n H Q ↔ (isO H a = true ∧ W (pj lw) 37 19 L (fld H a 22 :: S) k n H Q) := W_getf (rfl : (pj lw).1 37 16 = some (.getfield 44, 3, 22))
theorem w37_19 {x : Int32} {l0 : Slot} : W (pj lw) 37 19 (l0 :: .val (.int x) :: L) S k n H Q ↔ W (pj lw) 37 20 (l0 :: .val (.int x) :: L) (.int x :: S) k n H Q := W_s (rfl : (pj lw).1 37 19 = some (.iload_n 1, 1, 0)) rfl rfl rfl
theorem w37_20 : W (pj lw) 37 20 L S k n H Q ↔ W (pj lw) 37 21 L (.long 0 :: S) k n H Q := W_s (rfl : (pj lw).1 37 20 = some (.lconst 0, 1, 0)) rfl rfl rfl
theorem w37_21 {x : Int64} {i : Int32} {a : Nat} : W (pj lw) 37 21 L (.long x :: .int i :: .ref a :: S) k n H Q ↔ (inAw H a .long i = true ∧ W (pj lw) 37 22 L S k n (wr H a i.toNatClampNeg (.long x)) Q) := W_lastore (rfl : (pj lw).1 37 21 = some (.lastore, 1, 0))
theorem w37_22 {x : Int32} {l0 : Slot} : W (pj lw) 37 22 (l0 :: .val (.int x) :: L) S k n H Q ↔ W (pj lw) 37 25 (l0 :: .val (.int (x + 1)) :: L) S k n H Q := W_s (rfl : (pj lw).1 37 22 = some (.iinc 1 1, 3, 0)) rfl rfl rfl
theorem w37_25 : W (pj lw) 37 25 L S k n H Q ↔ W (pj lw) 37 2 L S k n H Q := W_goto (rfl : (pj lw).1 37 25 = some (.goto (-23), 3, 0)) rfl
theorem w37_28 : W (pj lw) 37 28 L S k n H Q ↔ W (pj lw) 37 29 L (.int 0 :: S) k n H Q := W_s (rfl : (pj lw).1 37 28 = some (.iconst 0, 1, 0)) rfl rfl rfl
theorem w37_29i {y : Int32} {x : Int32} {l0 : Slot} : W (pj lw) 37 29 (l0 :: .val (.int y) :: L) (.int x :: S) k n H Q ↔ W (pj lw) 37 30 (l0 :: .val (.int x) :: L) S k n H Q := W_istn (rfl : (pj lw).1 37 29 = some (.istore_n 1, 1, 0)) rfl rfl
theorem w37_30 {x : Int32} {l0 : Slot} : W (pj lw) 37 30 (l0 :: .val (.int x) :: L) S k n H Q ↔ W (pj lw) 37 31 (l0 :: .val (.int x) :: L) (.int x :: S) k n H Q := W_s (rfl : (pj lw).1 37 30 = some (.iload_n 1, 1, 0)) rfl rfl rfl
theorem w37_31 {x : Nat} : W (pj lw) 37 31 (.val (.ref x) :: L) S k n H Q ↔ W (pj lw) 37 32 (.val (.ref x) :: L) (.ref x :: S) k n H Q := W_s (rfl : (pj lw).1 37 31 = some (.aload_n 0, 1, 0)) rfl rfl rfl
theorem w37_32 {a : Nat} : W (pj lw) 37 32 L (.ref a :: S) k n H Q ↔ (isO H a = true ∧ W (pj lw) 37 35 L (fld H a 13 :: S) k n H Q) := W_getf (rfl : (pj lw).1 37 32 = some (.getfield 93, 3, 13))
theorem w37_35 {x y : Int32} : W (pj lw) 37 35 L (.int y :: .int x :: S) k n H Q ↔ (if y < x then W (pj lw) 37 138 L S k n H Q else W (pj lw) 37 38 L S k n H Q) := W_icmp_gt (rfl : (pj lw).1 37 35 = some (.if_icmp .gt 103, 3, 0)) rfl
theorem w37_38 {x : Int32} {l0 : Slot} : W (pj lw) 37 38 (l0 :: .val (.int x) :: L) S k n H Q ↔ W (pj lw) 37 39 (l0 :: .val (.int x) :: L) (.int x :: S) k n H Q := W_s (rfl : (pj lw).1 37 38 = some (.iload_n 1, 1, 0)) rfl rfl rfl
theorem w37_39 : W (pj lw) 37 39 L S k n H Q ↔ W (pj lw) 37 41 L (.int 9 :: S) k n H Q := W_s (rfl : (pj lw).1 37 39 = some (.bipush 9, 2, 0)) rfl rfl rfl
theorem w37_41 {x y : Int32} : W (pj lw) 37 41 L (.int y :: .int x :: S) k n H Q ↔ (if x < y then W (pj lw) 37 44 L S k n H Q else W (pj lw) 37 138 L S k n H Q) := W_icmp_ge (rfl : (pj lw).1 37 41 = some (.if_icmp .ge 97, 3, 0)) rfl
theorem w37_44 : W (pj lw) 37 44 L S k n H Q ↔ W (pj lw) 37 45 L (.int 0 :: S) k n H Q := W_s (rfl : (pj lw).1 37 44 = some (.iconst 0, 1, 0)) rfl rfl rfl
theorem w37_45i {y : Int32} {x : Int32} {l0 l1 : Slot} : W (pj lw) 37 45 (l0 :: l1 :: .val (.int y) :: L) (.int x :: S) k n H Q ↔ W (pj lw) 37 46 (l0 :: l1 :: .val (.int x) :: L) S k n H Q := W_istn (rfl : (pj lw).1 37 45 = some (.istore_n 2, 1, 0)) rfl rfl
theorem w37_45 {x : Int32} {l0 l1 : Slot} : W (pj lw) 37 45 (l0 :: l1 :: .unset :: L) (.int x :: S) k n H Q ↔ W (pj lw) 37 46 (l0 :: l1 :: .val (.int x) :: L) S k n H Q := W_istn (rfl : (pj lw).1 37 45 = some (.istore_n 2, 1, 0)) rfl rfl
theorem w37_46 {x : Int32} {l0 l1 : Slot} : W (pj lw) 37 46 (l0 :: l1 :: .val (.int x) :: L) S k n H Q ↔ W (pj lw) 37 47 (l0 :: l1 :: .val (.int x) :: L) (.int x :: S) k n H Q := W_s (rfl : (pj lw).1 37 46 = some (.iload_n 2, 1, 0)) rfl rfl rfl
theorem w37_47 {x : Nat} : W (pj lw) 37 47 (.val (.ref x) :: L) S k n H Q ↔ W (pj lw) 37 48 (.val (.ref x) :: L) (.ref x :: S) k n H Q := W_s (rfl : (pj lw).1 37 47 = some (.aload_n 0, 1, 0)) rfl rfl rfl
theorem w37_48 {a : Nat} : W (pj lw) 37 48 L (.ref a :: S) k n H Q ↔ (isO H a = true ∧ W (pj lw) 37 51 L (fld H a 11 :: S) k n H Q) := W_getf (rfl : (pj lw).1 37 48 = some (.getfield 84, 3, 11))
theorem w37_51 {x y : Int32} : W (pj lw) 37 51 L (.int y :: .int x :: S) k n H Q ↔ (if x < y then W (pj lw) 37 54 L S k n H Q else W (pj lw) 37 132 L S k n H Q) := W_icmp_ge (rfl : (pj lw).1 37 51 = some (.if_icmp .ge 81, 3, 0)) rfl
theorem w37_54 {x : Int32} {l0 l1 : Slot} : W (pj lw) 37 54 (l0 :: l1 :: .val (.int x) :: L) S k n H Q ↔ W (pj lw) 37 55 (l0 :: l1 :: .val (.int x) :: L) (.int x :: S) k n H Q := W_s (rfl : (pj lw).1 37 54 = some (.iload_n 2, 1, 0)) rfl rfl rfl
theorem w37_55 : W (pj lw) 37 55 L S k n H Q ↔ W (pj lw) 37 57 L (.int 6 :: S) k n H Q := W_s (rfl : (pj lw).1 37 55 = some (.bipush 6, 2, 0)) rfl rfl rfl
theorem w37_57 {x y : Int32} : W (pj lw) 37 57 L (.int y :: .int x :: S) k n H Q ↔ (if x < y then W (pj lw) 37 60 L S k n H Q else W (pj lw) 37 132 L S k n H Q) := W_icmp_ge (rfl : (pj lw).1 37 57 = some (.if_icmp .ge 75, 3, 0)) rfl
theorem w37_60 {x : Int32} {l0 : Slot} : W (pj lw) 37 60 (l0 :: .val (.int x) :: L) S k n H Q ↔ W (pj lw) 37 61 (l0 :: .val (.int x) :: L) (.int x :: S) k n H Q := W_s (rfl : (pj lw).1 37 60 = some (.iload_n 1, 1, 0)) rfl rfl rfl
theorem w37_61 {x : Nat} : W (pj lw) 37 61 (.val (.ref x) :: L) S k n H Q ↔ W (pj lw) 37 62 (.val (.ref x) :: L) (.ref x :: S) k n H Q := W_s (rfl : (pj lw).1 37 61 = some (.aload_n 0, 1, 0)) rfl rfl rfl
theorem w37_62 {a : Nat} : W (pj lw) 37 62 L (.ref a :: S) k n H Q ↔ (isO H a = true ∧ W (pj lw) 37 65 L (fld H a 13 :: S) k n H Q) := W_getf (rfl : (pj lw).1 37 62 = some (.getfield 93, 3, 13))
theorem w37_65 {x y : Int32} : W (pj lw) 37 65 L (.int y :: .int x :: S) k n H Q ↔ (if x < y then W (pj lw) 37 68 L S k n H Q else W (pj lw) 37 83 L S k n H Q) := W_icmp_ge (rfl : (pj lw).1 37 65 = some (.if_icmp .ge 18, 3, 0)) rfl
theorem w37_68 {x : Nat} : W (pj lw) 37 68 (.val (.ref x) :: L) S k n H Q ↔ W (pj lw) 37 69 (.val (.ref x) :: L) (.ref x :: S) k n H Q := W_s (rfl : (pj lw).1 37 68 = some (.aload_n 0, 1, 0)) rfl rfl rfl
theorem w37_69 {a : Nat} : W (pj lw) 37 69 L (.ref a :: S) k n H Q ↔ (isO H a = true ∧ W (pj lw) 37 72 L (fld H a 15 :: S) k n H Q) := W_getf (rfl : (pj lw).1 37 69 = some (.getfield 22, 3, 15))
theorem w37_72 {x : Int32} {l0 l1 : Slot} : W (pj lw) 37 72 (l0 :: l1 :: .val (.int x) :: L) S k n H Q ↔ W (pj lw) 37 73 (l0 :: l1 :: .val (.int x) :: L) (.int x :: S) k n H Q := W_s (rfl : (pj lw).1 37 72 = some (.iload_n 2, 1, 0)) rfl rfl rfl
theorem w37_73 : W (pj lw) 37 73 L S k n H Q ↔ W (pj lw) 37 75 L (.int 8 :: S) k n H Q := W_s (rfl : (pj lw).1 37 73 = some (.bipush 8, 2, 0)) rfl rfl rfl
theorem w37_75 {x y : Int32} : W (pj lw) 37 75 L (.int y :: .int x :: S) k n H Q ↔ W (pj lw) 37 76 L (.int (x * y) :: S) k n H Q := W_s (rfl : (pj lw).1 37 75 = some (.imul, 1, 0)) rfl rfl rfl
theorem w37_76 {x : Int32} {l0 : Slot} : W (pj lw) 37 76 (l0 :: .val (.int x) :: L) S k n H Q ↔ W (pj lw) 37 77 (l0 :: .val (.int x) :: L) (.int x :: S) k n H Q := W_s (rfl : (pj lw).1 37 76 = some (.iload_n 1, 1, 0)) rfl rfl rfl
theorem w37_77 {x y : Int32} : W (pj lw) 37 77 L (.int y :: .int x :: S) k n H Q ↔ W (pj lw) 37 78 L (.int (x + y) :: S) k n H Q := W_s (rfl : (pj lw).1 37 77 = some (.iadd, 1, 0)) rfl rfl rfl
theorem w37_78 {i : Int32} {a : Nat} : W (pj lw) 37 78 L (.int i :: .ref a :: S) k n H Q ↔ (inA H a .int i = true ∧ W (pj lw) 37 79 L (elt H a i :: S) k n H Q) := W_iaload (rfl : (pj lw).1 37 78 = some (.iaload, 1, 0))
theorem w37_79 {x : Int32} : W (pj lw) 37 79 L (.int x :: S) k n H Q ↔ W (pj lw) 37 80 L (.long x.toInt64 :: S) k n H Q := W_s (rfl : (pj lw).1 37 79 = some (.i2l, 1, 0)) rfl rfl rfl
theorem w37_80 : W (pj lw) 37 80 L S k n H Q ↔ W (pj lw) 37 90 L S k n H Q := W_goto (rfl : (pj lw).1 37 80 = some (.goto 10, 3, 0)) rfl
theorem w37_83 {x : Nat} : W (pj lw) 37 83 (.val (.ref x) :: L) S k n H Q ↔ W (pj lw) 37 84 (.val (.ref x) :: L) (.ref x :: S) k n H Q := W_s (rfl : (pj lw).1 37 83 = some (.aload_n 0, 1, 0)) rfl rfl rfl
theorem w37_84 {a : Nat} : W (pj lw) 37 84 L (.ref a :: S) k n H Q ↔ (isO H a = true ∧ W (pj lw) 37 87 L (fld H a 16 :: S) k n H Q) := W_getf (rfl : (pj lw).1 37 84 = some (.getfield 25, 3, 16))
theorem w37_87 {x : Int32} {l0 l1 : Slot} : W (pj lw) 37 87 (l0 :: l1 :: .val (.int x) :: L) S k n H Q ↔ W (pj lw) 37 88 (l0 :: l1 :: .val (.int x) :: L) (.int x :: S) k n H Q := W_s (rfl : (pj lw).1 37 87 = some (.iload_n 2, 1, 0)) rfl rfl rfl
theorem w37_88 {i : Int32} {a : Nat} : W (pj lw) 37 88 L (.int i :: .ref a :: S) k n H Q ↔ (inA H a .int i = true ∧ W (pj lw) 37 89 L (elt H a i :: S) k n H Q) := W_iaload (rfl : (pj lw).1 37 88 = some (.iaload, 1, 0))
theorem w37_89 {x : Int32} : W (pj lw) 37 89 L (.int x :: S) k n H Q ↔ W (pj lw) 37 90 L (.long x.toInt64 :: S) k n H Q := W_s (rfl : (pj lw).1 37 89 = some (.i2l, 1, 0)) rfl rfl rfl
theorem w37_90j {x y : Int64} {l0 l1 l2 : Slot} : W (pj lw) 37 90 (l0 :: l1 :: l2 :: .val (.long y) :: .second :: L) (.long x :: S) k n H Q ↔ W (pj lw) 37 91 (l0 :: l1 :: l2 :: .val (.long x) :: .second :: L) S k n H Q := W_lstn' (rfl : (pj lw).1 37 90 = some (.lstore_n 3, 1, 0)) rfl rfl
theorem w37_90uu {x : Int64} {l0 l1 l2 : Slot} : W (pj lw) 37 90 (l0 :: l1 :: l2 :: .unset :: .unset :: L) (.long x :: S) k n H Q ↔ W (pj lw) 37 91 (l0 :: l1 :: l2 :: .val (.long x) :: .second :: L) S k n H Q := W_lstn (rfl : (pj lw).1 37 90 = some (.lstore_n 3, 1, 0)) rfl rfl rfl rfl
theorem w37_91 {x : Int32} {l0 l1 : Slot} : W (pj lw) 37 91 (l0 :: l1 :: .val (.int x) :: L) S k n H Q ↔ W (pj lw) 37 92 (l0 :: l1 :: .val (.int x) :: L) (.int x :: S) k n H Q := W_s (rfl : (pj lw).1 37 91 = some (.iload_n 2, 1, 0)) rfl rfl rfl
theorem w37_92 {x : Nat} : W (pj lw) 37 92 (.val (.ref x) :: L) S k n H Q ↔ W (pj lw) 37 93 (.val (.ref x) :: L) (.ref x :: S) k n H Q := W_s (rfl : (pj lw).1 37 92 = some (.aload_n 0, 1, 0)) rfl rfl rfl
theorem w37_93 {a : Nat} : W (pj lw) 37 93 L (.ref a :: S) k n H Q ↔ (isO H a = true ∧ W (pj lw) 37 96 L (fld H a 12 :: S) k n H Q) := W_getf (rfl : (pj lw).1 37 93 = some (.getfield 90, 3, 12))
theorem w37_96 {x y : Int32} : W (pj lw) 37 96 L (.int y :: .int x :: S) k n H Q ↔ (if x < y then W (pj lw) 37 102 L S k n H Q else W (pj lw) 37 99 L S k n H Q) := W_icmp_lt (rfl : (pj lw).1 37 96 = some (.if_icmp .lt 6, 3, 0)) rfl
theorem w37_99 {x : Int64} {l0 l1 l2 : Slot} : W (pj lw) 37 99 (l0 :: l1 :: l2 :: .val (.long x) :: L) S k n H Q ↔ W (pj lw) 37 100 (l0 :: l1 :: l2 :: .val (.long x) :: L) (.long x :: S) k n H Q := W_s (rfl : (pj lw).1 37 99 = some (.lload_n 3, 1, 0)) rfl rfl rfl
theorem w37_100 {x : Int64} : W (pj lw) 37 100 L (.long x :: S) k n H Q ↔ W (pj lw) 37 101 L (.long (-x) :: S) k n H Q := W_s (rfl : (pj lw).1 37 100 = some (.lneg, 1, 0)) rfl rfl rfl
theorem w37_101j {x y : Int64} {l0 l1 l2 : Slot} : W (pj lw) 37 101 (l0 :: l1 :: l2 :: .val (.long y) :: .second :: L) (.long x :: S) k n H Q ↔ W (pj lw) 37 102 (l0 :: l1 :: l2 :: .val (.long x) :: .second :: L) S k n H Q := W_lstn' (rfl : (pj lw).1 37 101 = some (.lstore_n 3, 1, 0)) rfl rfl
theorem w37_102 {x : Nat} : W (pj lw) 37 102 (.val (.ref x) :: L) S k n H Q ↔ W (pj lw) 37 103 (.val (.ref x) :: L) (.ref x :: S) k n H Q := W_s (rfl : (pj lw).1 37 102 = some (.aload_n 0, 1, 0)) rfl rfl rfl
theorem w37_103 {a : Nat} : W (pj lw) 37 103 L (.ref a :: S) k n H Q ↔ (isO H a = true ∧ W (pj lw) 37 106 L (fld H a 21 :: S) k n H Q) := W_getf (rfl : (pj lw).1 37 103 = some (.getfield 41, 3, 21))
theorem w37_106 {x : Int32} {l0 : Slot} : W (pj lw) 37 106 (l0 :: .val (.int x) :: L) S k n H Q ↔ W (pj lw) 37 107 (l0 :: .val (.int x) :: L) (.int x :: S) k n H Q := W_s (rfl : (pj lw).1 37 106 = some (.iload_n 1, 1, 0)) rfl rfl rfl
theorem w37_107 : W (pj lw) 37 107 L S k n H Q ↔ W (pj lw) 37 109 L (.int 6 :: S) k n H Q := W_s (rfl : (pj lw).1 37 107 = some (.bipush 6, 2, 0)) rfl rfl rfl
theorem w37_109 {x y : Int32} : W (pj lw) 37 109 L (.int y :: .int x :: S) k n H Q ↔ W (pj lw) 37 110 L (.int (x * y) :: S) k n H Q := W_s (rfl : (pj lw).1 37 109 = some (.imul, 1, 0)) rfl rfl rfl
theorem w37_110 {x : Int32} {l0 l1 : Slot} : W (pj lw) 37 110 (l0 :: l1 :: .val (.int x) :: L) S k n H Q ↔ W (pj lw) 37 111 (l0 :: l1 :: .val (.int x) :: L) (.int x :: S) k n H Q := W_s (rfl : (pj lw).1 37 110 = some (.iload_n 2, 1, 0)) rfl rfl rfl
theorem w37_111 {x y : Int32} : W (pj lw) 37 111 L (.int y :: .int x :: S) k n H Q ↔ W (pj lw) 37 112 L (.int (x + y) :: S) k n H Q := W_s (rfl : (pj lw).1 37 111 = some (.iadd, 1, 0)) rfl rfl rfl
theorem w37_112 {x : Int64} {l0 l1 l2 : Slot} : W (pj lw) 37 112 (l0 :: l1 :: l2 :: .val (.long x) :: L) S k n H Q ↔ W (pj lw) 37 113 (l0 :: l1 :: l2 :: .val (.long x) :: L) (.long x :: S) k n H Q := W_s (rfl : (pj lw).1 37 112 = some (.lload_n 3, 1, 0)) rfl rfl rfl
theorem w37_113 {x : Int64} {i : Int32} {a : Nat} : W (pj lw) 37 113 L (.long x :: .int i :: .ref a :: S) k n H Q ↔ (inAw H a .long i = true ∧ W (pj lw) 37 114 L S k n (wr H a i.toNatClampNeg (.long x)) Q) := W_lastore (rfl : (pj lw).1 37 113 = some (.lastore, 1, 0))
theorem w37_114 {x : Nat} : W (pj lw) 37 114 (.val (.ref x) :: L) S k n H Q ↔ W (pj lw) 37 115 (.val (.ref x) :: L) (.ref x :: S) k n H Q := W_s (rfl : (pj lw).1 37 114 = some (.aload_n 0, 1, 0)) rfl rfl rfl
theorem w37_115 {a : Nat} : W (pj lw) 37 115 L (.ref a :: S) k n H Q ↔ (isO H a = true ∧ W (pj lw) 37 118 L (fld H a 22 :: S) k n H Q) := W_getf (rfl : (pj lw).1 37 115 = some (.getfield 44, 3, 22))
theorem w37_118 {x : Int32} {l0 : Slot} : W (pj lw) 37 118 (l0 :: .val (.int x) :: L) S k n H Q ↔ W (pj lw) 37 119 (l0 :: .val (.int x) :: L) (.int x :: S) k n H Q := W_s (rfl : (pj lw).1 37 118 = some (.iload_n 1, 1, 0)) rfl rfl rfl
theorem w37_119 : W (pj lw) 37 119 L S k n H Q ↔ W (pj lw) 37 121 L (.int 6 :: S) k n H Q := W_s (rfl : (pj lw).1 37 119 = some (.bipush 6, 2, 0)) rfl rfl rfl
theorem w37_121 {x y : Int32} : W (pj lw) 37 121 L (.int y :: .int x :: S) k n H Q ↔ W (pj lw) 37 122 L (.int (x * y) :: S) k n H Q := W_s (rfl : (pj lw).1 37 121 = some (.imul, 1, 0)) rfl rfl rfl
theorem w37_122 {x : Int32} {l0 l1 : Slot} : W (pj lw) 37 122 (l0 :: l1 :: .val (.int x) :: L) S k n H Q ↔ W (pj lw) 37 123 (l0 :: l1 :: .val (.int x) :: L) (.int x :: S) k n H Q := W_s (rfl : (pj lw).1 37 122 = some (.iload_n 2, 1, 0)) rfl rfl rfl
theorem w37_123 {x y : Int32} : W (pj lw) 37 123 L (.int y :: .int x :: S) k n H Q ↔ W (pj lw) 37 124 L (.int (x + y) :: S) k n H Q := W_s (rfl : (pj lw).1 37 123 = some (.iadd, 1, 0)) rfl rfl rfl
theorem w37_124 {x : Int64} {l0 l1 l2 : Slot} : W (pj lw) 37 124 (l0 :: l1 :: l2 :: .val (.long x) :: L) S k n H Q ↔ W (pj lw) 37 125 (l0 :: l1 :: l2 :: .val (.long x) :: L) (.long x :: S) k n H Q := W_s (rfl : (pj lw).1 37 124 = some (.lload_n 3, 1, 0)) rfl rfl rfl
theorem w37_125 {x : Int64} {i : Int32} {a : Nat} : W (pj lw) 37 125 L (.long x :: .int i :: .ref a :: S) k n H Q ↔ (inAw H a .long i = true ∧ W (pj lw) 37 126 L S k n (wr H a i.toNatClampNeg (.long x)) Q) := W_lastore (rfl : (pj lw).1 37 125 = some (.lastore, 1, 0))
theorem w37_126 {x : Int32} {l0 l1 : Slot} : W (pj lw) 37 126 (l0 :: l1 :: .val (.int x) :: L) S k n H Q ↔ W (pj lw) 37 129 (l0 :: l1 :: .val (.int (x + 1)) :: L) S k n H Q := W_s (rfl : (pj lw).1 37 126 = some (.iinc 2 1, 3, 0)) rfl rfl rfl
theorem w37_129 : W (pj lw) 37 129 L S k n H Q ↔ W (pj lw) 37 46 L S k n H Q := W_goto (rfl : (pj lw).1 37 129 = some (.goto (-83), 3, 0)) rfl
theorem w37_132 {x : Int32} {l0 : Slot} : W (pj lw) 37 132 (l0 :: .val (.int x) :: L) S k n H Q ↔ W (pj lw) 37 135 (l0 :: .val (.int (x + 1)) :: L) S k n H Q := W_s (rfl : (pj lw).1 37 132 = some (.iinc 1 1, 3, 0)) rfl rfl rfl
theorem w37_135 : W (pj lw) 37 135 L S k n H Q ↔ W (pj lw) 37 30 L S k n H Q := W_goto (rfl : (pj lw).1 37 135 = some (.goto (-105), 3, 0)) rfl
theorem w37_138 : W (pj lw) 37 138 L [] k n H Q ↔ Q none H := W_r (rfl : (pj lw).1 37 138 = some (.return_, 1, 0)) rfl
theorem c38 {x0 : Nat} {x1 : Int32} {x2 : Int32} : Cl (pj lw) 38 [.ref x0, .int x1, .int x2] H Q ↔ W (pj lw) 38 0 [.val (.ref x0), .val (.int x1), .val (.int x2), .unset, .unset, .unset, .unset, .unset, .unset, .unset, .unset] [] 0 0 H Q := cl_unf rfl
theorem w38_0 {x : Nat} : W (pj lw) 38 0 (.val (.ref x) :: L) S k n H Q ↔ W (pj lw) 38 1 (.val (.ref x) :: L) (.ref x :: S) k n H Q := W_s (rfl : (pj lw).1 38 0 = some (.aload_n 0, 1, 0)) rfl rfl rfl
theorem w38_1 : W (pj lw) 38 1 L S k n H Q ↔ W (pj lw) 38 2 L (.int 1 :: S) k n H Q := W_s (rfl : (pj lw).1 38 1 = some (.iconst 1, 1, 0)) rfl rfl rfl
theorem w38_2 {a : Nat} {v : Value} : W (pj lw) 38 2 L (v :: .ref a :: S) k n H Q ↔ ((isOw H a = true ∧ okv (.int) v = true) ∧ W (pj lw) 38 5 L S k n (wr H a 26 v) Q) := W_putf (rfl : (pj lw).1 38 2 = some (.putfield 169, 3, 26))
theorem w38_5 {x : Nat} : W (pj lw) 38 5 (.val (.ref x) :: L) S k n H Q ↔ W (pj lw) 38 6 (.val (.ref x) :: L) (.ref x :: S) k n H Q := W_s (rfl : (pj lw).1 38 5 = some (.aload_n 0, 1, 0)) rfl rfl rfl
theorem w38_6 : W (pj lw) 38 6 L S k n H Q ↔ W (pj lw) 38 7 L (.long 0 :: S) k n H Q := W_s (rfl : (pj lw).1 38 6 = some (.lconst 0, 1, 0)) rfl rfl rfl
theorem w38_7 {a : Nat} {v : Value} : W (pj lw) 38 7 L (v :: .ref a :: S) k n H Q ↔ ((isOw H a = true ∧ okv (.long) v = true) ∧ W (pj lw) 38 10 L S k n (wr H a 27 v) Q) := W_putf (rfl : (pj lw).1 38 7 = some (.putfield 172, 3, 27))
theorem w38_10 : W (pj lw) 38 10 L S k n H Q ↔ W (pj lw) 38 11 L (.int 0 :: S) k n H Q := W_s (rfl : (pj lw).1 38 10 = some (.iconst 0, 1, 0)) rfl rfl rfl
theorem w38_11 {x : Int32} {l0 l1 l2 : Slot} : W (pj lw) 38 11 (l0 :: l1 :: l2 :: .unset :: L) (.int x :: S) k n H Q ↔ W (pj lw) 38 12 (l0 :: l1 :: l2 :: .val (.int x) :: L) S k n H Q := W_istn (rfl : (pj lw).1 38 11 = some (.istore_n 3, 1, 0)) rfl rfl
theorem w38_12 {x : Int32} {l0 l1 l2 : Slot} : W (pj lw) 38 12 (l0 :: l1 :: l2 :: .val (.int x) :: L) S k n H Q ↔ W (pj lw) 38 13 (l0 :: l1 :: l2 :: .val (.int x) :: L) (.int x :: S) k n H Q := W_s (rfl : (pj lw).1 38 12 = some (.iload_n 3, 1, 0)) rfl rfl rfl
theorem w38_13 : W (pj lw) 38 13 L S k n H Q ↔ W (pj lw) 38 15 L (.int 9 :: S) k n H Q := W_s (rfl : (pj lw).1 38 13 = some (.bipush 9, 2, 0)) rfl rfl rfl
theorem w38_15 {x y : Int32} : W (pj lw) 38 15 L (.int y :: .int x :: S) k n H Q ↔ (if x < y then W (pj lw) 38 18 L S k n H Q else W (pj lw) 38 31 L S k n H Q) := W_icmp_ge (rfl : (pj lw).1 38 15 = some (.if_icmp .ge 16, 3, 0)) rfl
theorem w38_18 {x : Nat} : W (pj lw) 38 18 (.val (.ref x) :: L) S k n H Q ↔ W (pj lw) 38 19 (.val (.ref x) :: L) (.ref x :: S) k n H Q := W_s (rfl : (pj lw).1 38 18 = some (.aload_n 0, 1, 0)) rfl rfl rfl
theorem w38_19 {a : Nat} : W (pj lw) 38 19 L (.ref a :: S) k n H Q ↔ (isO H a = true ∧ W (pj lw) 38 22 L (fld H a 23 :: S) k n H Q) := W_getf (rfl : (pj lw).1 38 19 = some (.getfield 47, 3, 23))
theorem w38_22 {x : Int32} {l0 l1 l2 : Slot} : W (pj lw) 38 22 (l0 :: l1 :: l2 :: .val (.int x) :: L) S k n H Q ↔ W (pj lw) 38 23 (l0 :: l1 :: l2 :: .val (.int x) :: L) (.int x :: S) k n H Q := W_s (rfl : (pj lw).1 38 22 = some (.iload_n 3, 1, 0)) rfl rfl rfl
theorem w38_23 {x : Int32} {l0 l1 l2 : Slot} : W (pj lw) 38 23 (l0 :: l1 :: l2 :: .val (.int x) :: L) S k n H Q ↔ W (pj lw) 38 24 (l0 :: l1 :: l2 :: .val (.int x) :: L) (.int x :: S) k n H Q := W_s (rfl : (pj lw).1 38 23 = some (.iload_n 3, 1, 0)) rfl rfl rfl
theorem w38_24 {x i : Int32} {a : Nat} : W (pj lw) 38 24 L (.int x :: .int i :: .ref a :: S) k n H Q ↔ (inAw H a .int i = true ∧ W (pj lw) 38 25 L S k n (wr H a i.toNatClampNeg (.int x)) Q) := W_iastore (rfl : (pj lw).1 38 24 = some (.iastore, 1, 0))
theorem w38_25 {x : Int32} {l0 l1 l2 : Slot} : W (pj lw) 38 25 (l0 :: l1 :: l2 :: .val (.int x) :: L) S k n H Q ↔ W (pj lw) 38 28 (l0 :: l1 :: l2 :: .val (.int (x + 1)) :: L) S k n H Q := W_s (rfl : (pj lw).1 38 25 = some (.iinc 3 1, 3, 0)) rfl rfl rfl
theorem w38_28 : W (pj lw) 38 28 L S k n H Q ↔ W (pj lw) 38 12 L S k n H Q := W_goto (rfl : (pj lw).1 38 28 = some (.goto (-16), 3, 0)) rfl
theorem w38_31 : W (pj lw) 38 31 L S k n H Q ↔ W (pj lw) 38 32 L (.int 0 :: S) k n H Q := W_s (rfl : (pj lw).1 38 31 = some (.iconst 0, 1, 0)) rfl rfl rfl
theorem w38_32i {y : Int32} {x : Int32} {l0 l1 l2 : Slot} : W (pj lw) 38 32 (l0 :: l1 :: l2 :: .val (.int y) :: L) (.int x :: S) k n H Q ↔ W (pj lw) 38 33 (l0 :: l1 :: l2 :: .val (.int x) :: L) S k n H Q := W_istn (rfl : (pj lw).1 38 32 = some (.istore_n 3, 1, 0)) rfl rfl
theorem w38_33 : W (pj lw) 38 33 L S k n H Q ↔ W (pj lw) 38 34 L (.long 1 :: S) k n H Q := W_s (rfl : (pj lw).1 38 33 = some (.lconst 1, 1, 0)) rfl rfl rfl
theorem w38_34uu {x : Int64} {l0 l1 l2 l3 : Slot} : W (pj lw) 38 34 (l0 :: l1 :: l2 :: l3 :: .unset :: .unset :: L) (.long x :: S) k n H Q ↔ W (pj lw) 38 36 (l0 :: l1 :: l2 :: l3 :: .val (.long x) :: .second :: L) S k n H Q := W_lst (rfl : (pj lw).1 38 34 = some (.lstore 4, 2, 0)) rfl rfl rfl rfl
theorem w38_36 : W (pj lw) 38 36 L S k n H Q ↔ W (pj lw) 38 37 L (.int 0 :: S) k n H Q := W_s (rfl : (pj lw).1 38 36 = some (.iconst 0, 1, 0)) rfl rfl rfl
theorem w38_37 {x : Int32} {l0 l1 l2 l3 l4 l5 : Slot} : W (pj lw) 38 37 (l0 :: l1 :: l2 :: l3 :: l4 :: l5 :: .unset :: L) (.int x :: S) k n H Q ↔ W (pj lw) 38 39 (l0 :: l1 :: l2 :: l3 :: l4 :: l5 :: .val (.int x) :: L) S k n H Q := W_ist (rfl : (pj lw).1 38 37 = some (.istore 6, 2, 0)) rfl rfl
theorem w38_39 {x : Int32} {l0 l1 l2 l3 l4 l5 : Slot} : W (pj lw) 38 39 (l0 :: l1 :: l2 :: l3 :: l4 :: l5 :: .val (.int x) :: L) S k n H Q ↔ W (pj lw) 38 41 (l0 :: l1 :: l2 :: l3 :: l4 :: l5 :: .val (.int x) :: L) (.int x :: S) k n H Q := W_s (rfl : (pj lw).1 38 39 = some (.iload 6, 2, 0)) rfl rfl rfl
theorem w38_41 {x : Int32} {l0 l1 : Slot} : W (pj lw) 38 41 (l0 :: l1 :: .val (.int x) :: L) S k n H Q ↔ W (pj lw) 38 42 (l0 :: l1 :: .val (.int x) :: L) (.int x :: S) k n H Q := W_s (rfl : (pj lw).1 38 41 = some (.iload_n 2, 1, 0)) rfl rfl rfl
theorem w38_42 {x y : Int32} : W (pj lw) 38 42 L (.int y :: .int x :: S) k n H Q ↔ (if x < y then W (pj lw) 38 45 L S k n H Q else W (pj lw) 38 161 L S k n H Q) := W_icmp_ge (rfl : (pj lw).1 38 42 = some (.if_icmp .ge 119, 3, 0)) rfl
theorem w38_45 {x : Int32} {l0 l1 l2 l3 l4 l5 : Slot} : W (pj lw) 38 45 (l0 :: l1 :: l2 :: l3 :: l4 :: l5 :: .val (.int x) :: L) S k n H Q ↔ W (pj lw) 38 47 (l0 :: l1 :: l2 :: l3 :: l4 :: l5 :: .val (.int x) :: L) (.int x :: S) k n H Q := W_s (rfl : (pj lw).1 38 45 = some (.iload 6, 2, 0)) rfl rfl rfl
theorem w38_47 : W (pj lw) 38 47 L S k n H Q ↔ W (pj lw) 38 49 L (.int 6 :: S) k n H Q := W_s (rfl : (pj lw).1 38 47 = some (.bipush 6, 2, 0)) rfl rfl rfl
theorem w38_49 {x y : Int32} : W (pj lw) 38 49 L (.int y :: .int x :: S) k n H Q ↔ (if x < y then W (pj lw) 38 52 L S k n H Q else W (pj lw) 38 161 L S k n H Q) := W_icmp_ge (rfl : (pj lw).1 38 49 = some (.if_icmp .ge 112, 3, 0)) rfl
theorem w38_52 {x : Int32} {l0 l1 l2 : Slot} : W (pj lw) 38 52 (l0 :: l1 :: l2 :: .val (.int x) :: L) S k n H Q ↔ W (pj lw) 38 53 (l0 :: l1 :: l2 :: .val (.int x) :: L) (.int x :: S) k n H Q := W_s (rfl : (pj lw).1 38 52 = some (.iload_n 3, 1, 0)) rfl rfl rfl
theorem w38_53 {x : Int32} {l0 : Slot} : W (pj lw) 38 53 (l0 :: .val (.int x) :: L) S k n H Q ↔ W (pj lw) 38 54 (l0 :: .val (.int x) :: L) (.int x :: S) k n H Q := W_s (rfl : (pj lw).1 38 53 = some (.iload_n 1, 1, 0)) rfl rfl rfl
theorem w38_54 {x y : Int32} : W (pj lw) 38 54 L (.int y :: .int x :: S) k n H Q ↔ (if x < y then W (pj lw) 38 57 L S k n H Q else W (pj lw) 38 161 L S k n H Q) := W_icmp_ge (rfl : (pj lw).1 38 54 = some (.if_icmp .ge 107, 3, 0)) rfl
theorem w38_57 {x : Int32} {l0 l1 l2 : Slot} : W (pj lw) 38 57 (l0 :: l1 :: l2 :: .val (.int x) :: L) S k n H Q ↔ W (pj lw) 38 58 (l0 :: l1 :: l2 :: .val (.int x) :: L) (.int x :: S) k n H Q := W_s (rfl : (pj lw).1 38 57 = some (.iload_n 3, 1, 0)) rfl rfl rfl
theorem w38_58 : W (pj lw) 38 58 L S k n H Q ↔ W (pj lw) 38 60 L (.int 9 :: S) k n H Q := W_s (rfl : (pj lw).1 38 58 = some (.bipush 9, 2, 0)) rfl rfl rfl
theorem w38_60 {x y : Int32} : W (pj lw) 38 60 L (.int y :: .int x :: S) k n H Q ↔ (if x < y then W (pj lw) 38 63 L S k n H Q else W (pj lw) 38 161 L S k n H Q) := W_icmp_ge (rfl : (pj lw).1 38 60 = some (.if_icmp .ge 101, 3, 0)) rfl
theorem w38_63 {x : Nat} : W (pj lw) 38 63 (.val (.ref x) :: L) S k n H Q ↔ W (pj lw) 38 64 (.val (.ref x) :: L) (.ref x :: S) k n H Q := W_s (rfl : (pj lw).1 38 63 = some (.aload_n 0, 1, 0)) rfl rfl rfl
theorem w38_64 {x : Int32} {l0 l1 l2 : Slot} : W (pj lw) 38 64 (l0 :: l1 :: l2 :: .val (.int x) :: L) S k n H Q ↔ W (pj lw) 38 65 (l0 :: l1 :: l2 :: .val (.int x) :: L) (.int x :: S) k n H Q := W_s (rfl : (pj lw).1 38 64 = some (.iload_n 3, 1, 0)) rfl rfl rfl
theorem w38_65 {x : Int32} {l0 : Slot} : W (pj lw) 38 65 (l0 :: .val (.int x) :: L) S k n H Q ↔ W (pj lw) 38 66 (l0 :: .val (.int x) :: L) (.int x :: S) k n H Q := W_s (rfl : (pj lw).1 38 65 = some (.iload_n 1, 1, 0)) rfl rfl rfl
theorem w38_66 {x : Int32} {l0 l1 l2 l3 l4 l5 : Slot} : W (pj lw) 38 66 (l0 :: l1 :: l2 :: l3 :: l4 :: l5 :: .val (.int x) :: L) S k n H Q ↔ W (pj lw) 38 68 (l0 :: l1 :: l2 :: l3 :: l4 :: l5 :: .val (.int x) :: L) (.int x :: S) k n H Q := W_s (rfl : (pj lw).1 38 66 = some (.iload 6, 2, 0)) rfl rfl rfl
theorem w38_68 {a : Nat} {x0 : Int32} {x1 : Int32} {x2 : Int32} : W (pj lw) 38 68 L (.int x2 :: .int x1 :: .int x0 :: .ref a :: S) k n H Q ↔ ((isO H a = true ∧ cs S + (5 + 11) + 0 ≤ 22) ∧ Cl (pj lw) 39 [.ref a, .int x0, .int x1, .int x2] H (fun v H => W (pj lw) 38 71 L (v.toList ++ S) k n H Q)) := W_inst (as := [.int x0, .int x1, .int x2]) (rfl : (pj lw).1 38 68 = some (.invokevirtual 176, 3, 39)) rfl rfl rfl (Nat.le_of_ble_eq_true rfl) (Nat.le_of_ble_eq_true rfl) ⟨rfl, rfl⟩
theorem w38_71i {y : Int32} {x : Int32} {l0 l1 l2 l3 l4 l5 l6 : Slot} : W (pj lw) 38 71 (l0 :: l1 :: l2 :: l3 :: l4 :: l5 :: l6 :: .val (.int y) :: L) (.int x :: S) k n H Q ↔ W (pj lw) 38 73 (l0 :: l1 :: l2 :: l3 :: l4 :: l5 :: l6 :: .val (.int x) :: L) S k n H Q := W_ist (rfl : (pj lw).1 38 71 = some (.istore 7, 2, 0)) rfl rfl
theorem w38_71 {x : Int32} {l0 l1 l2 l3 l4 l5 l6 : Slot} : W (pj lw) 38 71 (l0 :: l1 :: l2 :: l3 :: l4 :: l5 :: l6 :: .unset :: L) (.int x :: S) k n H Q ↔ W (pj lw) 38 73 (l0 :: l1 :: l2 :: l3 :: l4 :: l5 :: l6 :: .val (.int x) :: L) S k n H Q := W_ist (rfl : (pj lw).1 38 71 = some (.istore 7, 2, 0)) rfl rfl
theorem w38_73 {x : Int32} {l0 l1 l2 l3 l4 l5 l6 : Slot} : W (pj lw) 38 73 (l0 :: l1 :: l2 :: l3 :: l4 :: l5 :: l6 :: .val (.int x) :: L) S k n H Q ↔ W (pj lw) 38 75 (l0 :: l1 :: l2 :: l3 :: l4 :: l5 :: l6 :: .val (.int x) :: L) (.int x :: S) k n H Q := W_s (rfl : (pj lw).1 38 73 = some (.iload 7, 2, 0)) rfl rfl rfl
theorem w38_75 {x : Int32} : W (pj lw) 38 75 L (.int x :: S) k n H Q ↔ (if x < 0 then W (pj lw) 38 155 L S k n H Q else W (pj lw) 38 78 L S k n H Q) := W_if_lt (rfl : (pj lw).1 38 75 = some (.ifCond .lt 80, 3, 0)) rfl
theorem w38_78 {x : Int32} {l0 l1 l2 l3 l4 l5 l6 : Slot} : W (pj lw) 38 78 (l0 :: l1 :: l2 :: l3 :: l4 :: l5 :: l6 :: .val (.int x) :: L) S k n H Q ↔ W (pj lw) 38 80 (l0 :: l1 :: l2 :: l3 :: l4 :: l5 :: l6 :: .val (.int x) :: L) (.int x :: S) k n H Q := W_s (rfl : (pj lw).1 38 78 = some (.iload 7, 2, 0)) rfl rfl rfl
theorem w38_80 {x : Int32} {l0 l1 l2 : Slot} : W (pj lw) 38 80 (l0 :: l1 :: l2 :: .val (.int x) :: L) S k n H Q ↔ W (pj lw) 38 81 (l0 :: l1 :: l2 :: .val (.int x) :: L) (.int x :: S) k n H Q := W_s (rfl : (pj lw).1 38 80 = some (.iload_n 3, 1, 0)) rfl rfl rfl
theorem w38_81 {x y : Int32} : W (pj lw) 38 81 L (.int y :: .int x :: S) k n H Q ↔ (if x = y then W (pj lw) 38 91 L S k n H Q else W (pj lw) 38 84 L S k n H Q) := W_icmp_eq (rfl : (pj lw).1 38 81 = some (.if_icmp .eq 10, 3, 0)) rfl
theorem w38_84 {x : Nat} : W (pj lw) 38 84 (.val (.ref x) :: L) S k n H Q ↔ W (pj lw) 38 85 (.val (.ref x) :: L) (.ref x :: S) k n H Q := W_s (rfl : (pj lw).1 38 84 = some (.aload_n 0, 1, 0)) rfl rfl rfl
theorem w38_85 {x : Int32} {l0 l1 l2 l3 l4 l5 l6 : Slot} : W (pj lw) 38 85 (l0 :: l1 :: l2 :: l3 :: l4 :: l5 :: l6 :: .val (.int x) :: L) S k n H Q ↔ W (pj lw) 38 87 (l0 :: l1 :: l2 :: l3 :: l4 :: l5 :: l6 :: .val (.int x) :: L) (.int x :: S) k n H Q := W_s (rfl : (pj lw).1 38 85 = some (.iload 7, 2, 0)) rfl rfl rfl
theorem w38_87 {x : Int32} {l0 l1 l2 : Slot} : W (pj lw) 38 87 (l0 :: l1 :: l2 :: .val (.int x) :: L) S k n H Q ↔ W (pj lw) 38 88 (l0 :: l1 :: l2 :: .val (.int x) :: L) (.int x :: S) k n H Q := W_s (rfl : (pj lw).1 38 87 = some (.iload_n 3, 1, 0)) rfl rfl rfl
theorem w38_91 {x : Nat} : W (pj lw) 38 91 (.val (.ref x) :: L) S k n H Q ↔ W (pj lw) 38 92 (.val (.ref x) :: L) (.ref x :: S) k n H Q := W_s (rfl : (pj lw).1 38 91 = some (.aload_n 0, 1, 0)) rfl rfl rfl
theorem w38_92 {a : Nat} : W (pj lw) 38 92 L (.ref a :: S) k n H Q ↔ (isO H a = true ∧ W (pj lw) 38 95 L (fld H a 22 :: S) k n H Q) := W_getf (rfl : (pj lw).1 38 92 = some (.getfield 44, 3, 22))
theorem w38_95 {x : Int32} {l0 l1 l2 : Slot} : W (pj lw) 38 95 (l0 :: l1 :: l2 :: .val (.int x) :: L) S k n H Q ↔ W (pj lw) 38 96 (l0 :: l1 :: l2 :: .val (.int x) :: L) (.int x :: S) k n H Q := W_s (rfl : (pj lw).1 38 95 = some (.iload_n 3, 1, 0)) rfl rfl rfl
theorem w38_96 : W (pj lw) 38 96 L S k n H Q ↔ W (pj lw) 38 98 L (.int 6 :: S) k n H Q := W_s (rfl : (pj lw).1 38 96 = some (.bipush 6, 2, 0)) rfl rfl rfl
theorem w38_98 {x y : Int32} : W (pj lw) 38 98 L (.int y :: .int x :: S) k n H Q ↔ W (pj lw) 38 99 L (.int (x * y) :: S) k n H Q := W_s (rfl : (pj lw).1 38 98 = some (.imul, 1, 0)) rfl rfl rfl
theorem w38_99 {x : Int32} {l0 l1 l2 l3 l4 l5 : Slot} : W (pj lw) 38 99 (l0 :: l1 :: l2 :: l3 :: l4 :: l5 :: .val (.int x) :: L) S k n H Q ↔ W (pj lw) 38 101 (l0 :: l1 :: l2 :: l3 :: l4 :: l5 :: .val (.int x) :: L) (.int x :: S) k n H Q := W_s (rfl : (pj lw).1 38 99 = some (.iload 6, 2, 0)) rfl rfl rfl
theorem w38_101 {x y : Int32} : W (pj lw) 38 101 L (.int y :: .int x :: S) k n H Q ↔ W (pj lw) 38 102 L (.int (x + y) :: S) k n H Q := W_s (rfl : (pj lw).1 38 101 = some (.iadd, 1, 0)) rfl rfl rfl
theorem w38_102 {i : Int32} {a : Nat} : W (pj lw) 38 102 L (.int i :: .ref a :: S) k n H Q ↔ (inA H a .long i = true ∧ W (pj lw) 38 103 L (elt H a i :: S) k n H Q) := W_laload (rfl : (pj lw).1 38 102 = some (.laload, 1, 0))
theorem w38_103j {x y : Int64} {l0 l1 l2 l3 l4 l5 l6 l7 : Slot} : W (pj lw) 38 103 (l0 :: l1 :: l2 :: l3 :: l4 :: l5 :: l6 :: l7 :: .val (.long y) :: .second :: L) (.long x :: S) k n H Q ↔ W (pj lw) 38 105 (l0 :: l1 :: l2 :: l3 :: l4 :: l5 :: l6 :: l7 :: .val (.long x) :: .second :: L) S k n H Q := W_lst' (rfl : (pj lw).1 38 103 = some (.lstore 8, 2, 0)) rfl rfl
theorem w38_103uu {x : Int64} {l0 l1 l2 l3 l4 l5 l6 l7 : Slot} : W (pj lw) 38 103 (l0 :: l1 :: l2 :: l3 :: l4 :: l5 :: l6 :: l7 :: .unset :: .unset :: L) (.long x :: S) k n H Q ↔ W (pj lw) 38 105 (l0 :: l1 :: l2 :: l3 :: l4 :: l5 :: l6 :: l7 :: .val (.long x) :: .second :: L) S k n H Q := W_lst (rfl : (pj lw).1 38 103 = some (.lstore 8, 2, 0)) rfl rfl rfl rfl
theorem w38_105 {x : Int32} {l0 l1 l2 : Slot} : W (pj lw) 38 105 (l0 :: l1 :: l2 :: .val (.int x) :: L) S k n H Q ↔ W (pj lw) 38 106 (l0 :: l1 :: l2 :: .val (.int x) :: L) (.int x :: S) k n H Q := W_s (rfl : (pj lw).1 38 105 = some (.iload_n 3, 1, 0)) rfl rfl rfl
theorem w38_106 : W (pj lw) 38 106 L S k n H Q ↔ W (pj lw) 38 107 L (.int 1 :: S) k n H Q := W_s (rfl : (pj lw).1 38 106 = some (.iconst 1, 1, 0)) rfl rfl rfl
theorem w38_107 {x y : Int32} : W (pj lw) 38 107 L (.int y :: .int x :: S) k n H Q ↔ W (pj lw) 38 108 L (.int (x + y) :: S) k n H Q := W_s (rfl : (pj lw).1 38 107 = some (.iadd, 1, 0)) rfl rfl rfl
theorem w38_108i {y : Int32} {x : Int32} {l0 l1 l2 l3 l4 l5 l6 l7 l8 l9 : Slot} : W (pj lw) 38 108 (l0 :: l1 :: l2 :: l3 :: l4 :: l5 :: l6 :: l7 :: l8 :: l9 :: .val (.int y) :: L) (.int x :: S) k n H Q ↔ W (pj lw) 38 110 (l0 :: l1 :: l2 :: l3 :: l4 :: l5 :: l6 :: l7 :: l8 :: l9 :: .val (.int x) :: L) S k n H Q := W_ist (rfl : (pj lw).1 38 108 = some (.istore 10, 2, 0)) rfl rfl
theorem w38_108 {x : Int32} {l0 l1 l2 l3 l4 l5 l6 l7 l8 l9 : Slot} : W (pj lw) 38 108 (l0 :: l1 :: l2 :: l3 :: l4 :: l5 :: l6 :: l7 :: l8 :: l9 :: .unset :: L) (.int x :: S) k n H Q ↔ W (pj lw) 38 110 (l0 :: l1 :: l2 :: l3 :: l4 :: l5 :: l6 :: l7 :: l8 :: l9 :: .val (.int x) :: L) S k n H Q := W_ist (rfl : (pj lw).1 38 108 = some (.istore 10, 2, 0)) rfl rfl
theorem w38_110 {x : Int32} {l0 l1 l2 l3 l4 l5 l6 l7 l8 l9 : Slot} : W (pj lw) 38 110 (l0 :: l1 :: l2 :: l3 :: l4 :: l5 :: l6 :: l7 :: l8 :: l9 :: .val (.int x) :: L) S k n H Q ↔ W (pj lw) 38 112 (l0 :: l1 :: l2 :: l3 :: l4 :: l5 :: l6 :: l7 :: l8 :: l9 :: .val (.int x) :: L) (.int x :: S) k n H Q := W_s (rfl : (pj lw).1 38 110 = some (.iload 10, 2, 0)) rfl rfl rfl
theorem w38_112 {x : Int32} {l0 : Slot} : W (pj lw) 38 112 (l0 :: .val (.int x) :: L) S k n H Q ↔ W (pj lw) 38 113 (l0 :: .val (.int x) :: L) (.int x :: S) k n H Q := W_s (rfl : (pj lw).1 38 112 = some (.iload_n 1, 1, 0)) rfl rfl rfl
theorem w38_113 {x y : Int32} : W (pj lw) 38 113 L (.int y :: .int x :: S) k n H Q ↔ (if x < y then W (pj lw) 38 116 L S k n H Q else W (pj lw) 38 142 L S k n H Q) := W_icmp_ge (rfl : (pj lw).1 38 113 = some (.if_icmp .ge 29, 3, 0)) rfl
theorem w38_116 {x : Int32} {l0 l1 l2 l3 l4 l5 l6 l7 l8 l9 : Slot} : W (pj lw) 38 116 (l0 :: l1 :: l2 :: l3 :: l4 :: l5 :: l6 :: l7 :: l8 :: l9 :: .val (.int x) :: L) S k n H Q ↔ W (pj lw) 38 118 (l0 :: l1 :: l2 :: l3 :: l4 :: l5 :: l6 :: l7 :: l8 :: l9 :: .val (.int x) :: L) (.int x :: S) k n H Q := W_s (rfl : (pj lw).1 38 116 = some (.iload 10, 2, 0)) rfl rfl rfl
theorem w38_118 : W (pj lw) 38 118 L S k n H Q ↔ W (pj lw) 38 120 L (.int 9 :: S) k n H Q := W_s (rfl : (pj lw).1 38 118 = some (.bipush 9, 2, 0)) rfl rfl rfl
theorem w38_120 {x y : Int32} : W (pj lw) 38 120 L (.int y :: .int x :: S) k n H Q ↔ (if x < y then W (pj lw) 38 123 L S k n H Q else W (pj lw) 38 142 L S k n H Q) := W_icmp_ge (rfl : (pj lw).1 38 120 = some (.if_icmp .ge 22, 3, 0)) rfl
theorem w38_123 {x : Nat} : W (pj lw) 38 123 (.val (.ref x) :: L) S k n H Q ↔ W (pj lw) 38 124 (.val (.ref x) :: L) (.ref x :: S) k n H Q := W_s (rfl : (pj lw).1 38 123 = some (.aload_n 0, 1, 0)) rfl rfl rfl
theorem w38_124 {x : Int32} {l0 l1 l2 l3 l4 l5 l6 l7 l8 l9 : Slot} : W (pj lw) 38 124 (l0 :: l1 :: l2 :: l3 :: l4 :: l5 :: l6 :: l7 :: l8 :: l9 :: .val (.int x) :: L) S k n H Q ↔ W (pj lw) 38 126 (l0 :: l1 :: l2 :: l3 :: l4 :: l5 :: l6 :: l7 :: l8 :: l9 :: .val (.int x) :: L) (.int x :: S) k n H Q := W_s (rfl : (pj lw).1 38 124 = some (.iload 10, 2, 0)) rfl rfl rfl
theorem w38_126 {x : Int32} {l0 l1 l2 : Slot} : W (pj lw) 38 126 (l0 :: l1 :: l2 :: .val (.int x) :: L) S k n H Q ↔ W (pj lw) 38 127 (l0 :: l1 :: l2 :: .val (.int x) :: L) (.int x :: S) k n H Q := W_s (rfl : (pj lw).1 38 126 = some (.iload_n 3, 1, 0)) rfl rfl rfl
theorem w38_127 {x : Int32} {l0 l1 l2 l3 l4 l5 : Slot} : W (pj lw) 38 127 (l0 :: l1 :: l2 :: l3 :: l4 :: l5 :: .val (.int x) :: L) S k n H Q ↔ W (pj lw) 38 129 (l0 :: l1 :: l2 :: l3 :: l4 :: l5 :: .val (.int x) :: L) (.int x :: S) k n H Q := W_s (rfl : (pj lw).1 38 127 = some (.iload 6, 2, 0)) rfl rfl rfl
theorem w38_129 {x : Int64} {l0 l1 l2 l3 l4 l5 l6 l7 : Slot} : W (pj lw) 38 129 (l0 :: l1 :: l2 :: l3 :: l4 :: l5 :: l6 :: l7 :: .val (.long x) :: L) S k n H Q ↔ W (pj lw) 38 131 (l0 :: l1 :: l2 :: l3 :: l4 :: l5 :: l6 :: l7 :: .val (.long x) :: L) (.long x :: S) k n H Q := W_s (rfl : (pj lw).1 38 129 = some (.lload 8, 2, 0)) rfl rfl rfl
theorem w38_131 {x : Int64} {l0 l1 l2 l3 : Slot} : W (pj lw) 38 131 (l0 :: l1 :: l2 :: l3 :: .val (.long x) :: L) S k n H Q ↔ W (pj lw) 38 133 (l0 :: l1 :: l2 :: l3 :: .val (.long x) :: L) (.long x :: S) k n H Q := W_s (rfl : (pj lw).1 38 131 = some (.lload 4, 2, 0)) rfl rfl rfl
theorem w38_133 {a : Nat} {x0 : Int32} {x1 : Int32} {x2 : Int32} {x3 : Int64} {x4 : Int64} : W (pj lw) 38 133 L (.long x4 :: .long x3 :: .int x2 :: .int x1 :: .int x0 :: .ref a :: S) k n H Q ↔ ((isO H a = true ∧ cs S + (11 + 11) + 0 ≤ 22) ∧ Cl (pj lw) 41 [.ref a, .int x0, .int x1, .int x2, .long x3, .long x4] H (fun v H => W (pj lw) 38 136 L (v.toList ++ S) k n H Q)) := W_inst (as := [.int x0, .int x1, .int x2, .long x3, .long x4]) (rfl : (pj lw).1 38 133 = some (.invokevirtual 184, 3, 41)) rfl rfl rfl (Nat.le_of_ble_eq_true rfl) (Nat.le_of_ble_eq_true rfl) ⟨rfl, rfl⟩
theorem w38_136 {x : Int32} {l0 l1 l2 l3 l4 l5 l6 l7 l8 l9 : Slot} : W (pj lw) 38 136 (l0 :: l1 :: l2 :: l3 :: l4 :: l5 :: l6 :: l7 :: l8 :: l9 :: .val (.int x) :: L) S k n H Q ↔ W (pj lw) 38 139 (l0 :: l1 :: l2 :: l3 :: l4 :: l5 :: l6 :: l7 :: l8 :: l9 :: .val (.int (x + 1)) :: L) S k n H Q := W_s (rfl : (pj lw).1 38 136 = some (.iinc 10 1, 3, 0)) rfl rfl rfl
theorem w38_139 : W (pj lw) 38 139 L S k n H Q ↔ W (pj lw) 38 110 L S k n H Q := W_goto (rfl : (pj lw).1 38 139 = some (.goto (-29), 3, 0)) rfl
theorem w38_142 {x : Int64} {l0 l1 l2 l3 l4 l5 l6 l7 : Slot} : W (pj lw) 38 142 (l0 :: l1 :: l2 :: l3 :: l4 :: l5 :: l6 :: l7 :: .val (.long x) :: L) S k n H Q ↔ W (pj lw) 38 144 (l0 :: l1 :: l2 :: l3 :: l4 :: l5 :: l6 :: l7 :: .val (.long x) :: L) (.long x :: S) k n H Q := W_s (rfl : (pj lw).1 38 142 = some (.lload 8, 2, 0)) rfl rfl rfl
theorem w38_144j {x y : Int64} {l0 l1 l2 l3 : Slot} : W (pj lw) 38 144 (l0 :: l1 :: l2 :: l3 :: .val (.long y) :: .second :: L) (.long x :: S) k n H Q ↔ W (pj lw) 38 146 (l0 :: l1 :: l2 :: l3 :: .val (.long x) :: .second :: L) S k n H Q := W_lst' (rfl : (pj lw).1 38 144 = some (.lstore 4, 2, 0)) rfl rfl
theorem w38_146 {x : Nat} : W (pj lw) 38 146 (.val (.ref x) :: L) S k n H Q ↔ W (pj lw) 38 147 (.val (.ref x) :: L) (.ref x :: S) k n H Q := W_s (rfl : (pj lw).1 38 146 = some (.aload_n 0, 1, 0)) rfl rfl rfl
theorem w38_147 {x : Int64} {l0 l1 l2 l3 l4 l5 l6 l7 : Slot} : W (pj lw) 38 147 (l0 :: l1 :: l2 :: l3 :: l4 :: l5 :: l6 :: l7 :: .val (.long x) :: L) S k n H Q ↔ W (pj lw) 38 149 (l0 :: l1 :: l2 :: l3 :: l4 :: l5 :: l6 :: l7 :: .val (.long x) :: L) (.long x :: S) k n H Q := W_s (rfl : (pj lw).1 38 147 = some (.lload 8, 2, 0)) rfl rfl rfl
theorem w38_149 {a : Nat} {v : Value} : W (pj lw) 38 149 L (v :: .ref a :: S) k n H Q ↔ ((isOw H a = true ∧ okv (.long) v = true) ∧ W (pj lw) 38 152 L S k n (wr H a 27 v) Q) := W_putf (rfl : (pj lw).1 38 149 = some (.putfield 172, 3, 27))
theorem w38_152 {x : Int32} {l0 l1 l2 : Slot} : W (pj lw) 38 152 (l0 :: l1 :: l2 :: .val (.int x) :: L) S k n H Q ↔ W (pj lw) 38 155 (l0 :: l1 :: l2 :: .val (.int (x + 1)) :: L) S k n H Q := W_s (rfl : (pj lw).1 38 152 = some (.iinc 3 1, 3, 0)) rfl rfl rfl
theorem w38_155 {x : Int32} {l0 l1 l2 l3 l4 l5 : Slot} : W (pj lw) 38 155 (l0 :: l1 :: l2 :: l3 :: l4 :: l5 :: .val (.int x) :: L) S k n H Q ↔ W (pj lw) 38 158 (l0 :: l1 :: l2 :: l3 :: l4 :: l5 :: .val (.int (x + 1)) :: L) S k n H Q := W_s (rfl : (pj lw).1 38 155 = some (.iinc 6 1, 3, 0)) rfl rfl rfl
theorem w38_158 : W (pj lw) 38 158 L S k n H Q ↔ W (pj lw) 38 39 L S k n H Q := W_goto (rfl : (pj lw).1 38 158 = some (.goto (-119), 3, 0)) rfl
theorem w38_161 {x : Int32} {l0 l1 l2 : Slot} : W (pj lw) 38 161 (l0 :: l1 :: l2 :: .val (.int x) :: L) S k n H Q ↔ W (pj lw) 38 162 (l0 :: l1 :: l2 :: .val (.int x) :: L) (.int x :: S) k n H Q := W_s (rfl : (pj lw).1 38 161 = some (.iload_n 3, 1, 0)) rfl rfl rfl
theorem w38_162 {x : Int32} : W (pj lw) 38 162 L (.int x :: S) k n H Q ↔ Q (some (.int x)) H := W_r (rfl : (pj lw).1 38 162 = some (.ireturn, 1, 0)) rfl
theorem c39 {x0 : Nat} {x1 : Int32} {x2 : Int32} {x3 : Int32} : Cl (pj lw) 39 [.ref x0, .int x1, .int x2, .int x3] H Q ↔ W (pj lw) 39 0 [.val (.ref x0), .val (.int x1), .val (.int x2), .val (.int x3), .unset] [] 0 0 H Q := cl_unf rfl
theorem w39_0 {x : Int32} {l0 : Slot} : W (pj lw) 39 0 (l0 :: .val (.int x) :: L) S k n H Q ↔ W (pj lw) 39 1 (l0 :: .val (.int x) :: L) (.int x :: S) k n H Q := W_s (rfl : (pj lw).1 39 0 = some (.iload_n 1, 1, 0)) rfl rfl rfl
theorem w39_1 {x : Int32} {l0 l1 l2 l3 : Slot} : W (pj lw) 39 1 (l0 :: l1 :: l2 :: l3 :: .unset :: L) (.int x :: S) k n H Q ↔ W (pj lw) 39 3 (l0 :: l1 :: l2 :: l3 :: .val (.int x) :: L) S k n H Q := W_ist (rfl : (pj lw).1 39 1 = some (.istore 4, 2, 0)) rfl rfl
theorem w39_3 {x : Int32} {l0 l1 l2 l3 : Slot} : W (pj lw) 39 3 (l0 :: l1 :: l2 :: l3 :: .val (.int x) :: L) S k n H Q ↔ W (pj lw) 39 5 (l0 :: l1 :: l2 :: l3 :: .val (.int x) :: L) (.int x :: S) k n H Q := W_s (rfl : (pj lw).1 39 3 = some (.iload 4, 2, 0)) rfl rfl rfl
theorem w39_5 {x : Int32} {l0 l1 : Slot} : W (pj lw) 39 5 (l0 :: l1 :: .val (.int x) :: L) S k n H Q ↔ W (pj lw) 39 6 (l0 :: l1 :: .val (.int x) :: L) (.int x :: S) k n H Q := W_s (rfl : (pj lw).1 39 5 = some (.iload_n 2, 1, 0)) rfl rfl rfl
theorem w39_6 {x y : Int32} : W (pj lw) 39 6 L (.int y :: .int x :: S) k n H Q ↔ (if x < y then W (pj lw) 39 9 L S k n H Q else W (pj lw) 39 42 L S k n H Q) := W_icmp_ge (rfl : (pj lw).1 39 6 = some (.if_icmp .ge 36, 3, 0)) rfl
theorem w39_9 {x : Int32} {l0 l1 l2 l3 : Slot} : W (pj lw) 39 9 (l0 :: l1 :: l2 :: l3 :: .val (.int x) :: L) S k n H Q ↔ W (pj lw) 39 11 (l0 :: l1 :: l2 :: l3 :: .val (.int x) :: L) (.int x :: S) k n H Q := W_s (rfl : (pj lw).1 39 9 = some (.iload 4, 2, 0)) rfl rfl rfl
theorem w39_11 : W (pj lw) 39 11 L S k n H Q ↔ W (pj lw) 39 13 L (.int 9 :: S) k n H Q := W_s (rfl : (pj lw).1 39 11 = some (.bipush 9, 2, 0)) rfl rfl rfl
theorem w39_13 {x y : Int32} : W (pj lw) 39 13 L (.int y :: .int x :: S) k n H Q ↔ (if x < y then W (pj lw) 39 16 L S k n H Q else W (pj lw) 39 42 L S k n H Q) := W_icmp_ge (rfl : (pj lw).1 39 13 = some (.if_icmp .ge 29, 3, 0)) rfl
theorem w39_16 {x : Nat} : W (pj lw) 39 16 (.val (.ref x) :: L) S k n H Q ↔ W (pj lw) 39 17 (.val (.ref x) :: L) (.ref x :: S) k n H Q := W_s (rfl : (pj lw).1 39 16 = some (.aload_n 0, 1, 0)) rfl rfl rfl
theorem w39_17 {a : Nat} : W (pj lw) 39 17 L (.ref a :: S) k n H Q ↔ (isO H a = true ∧ W (pj lw) 39 20 L (fld H a 22 :: S) k n H Q) := W_getf (rfl : (pj lw).1 39 17 = some (.getfield 44, 3, 22))
theorem w39_20 {x : Int32} {l0 l1 l2 l3 : Slot} : W (pj lw) 39 20 (l0 :: l1 :: l2 :: l3 :: .val (.int x) :: L) S k n H Q ↔ W (pj lw) 39 22 (l0 :: l1 :: l2 :: l3 :: .val (.int x) :: L) (.int x :: S) k n H Q := W_s (rfl : (pj lw).1 39 20 = some (.iload 4, 2, 0)) rfl rfl rfl
theorem w39_22 : W (pj lw) 39 22 L S k n H Q ↔ W (pj lw) 39 24 L (.int 6 :: S) k n H Q := W_s (rfl : (pj lw).1 39 22 = some (.bipush 6, 2, 0)) rfl rfl rfl
theorem w39_24 {x y : Int32} : W (pj lw) 39 24 L (.int y :: .int x :: S) k n H Q ↔ W (pj lw) 39 25 L (.int (x * y) :: S) k n H Q := W_s (rfl : (pj lw).1 39 24 = some (.imul, 1, 0)) rfl rfl rfl
theorem w39_25 {x : Int32} {l0 l1 l2 : Slot} : W (pj lw) 39 25 (l0 :: l1 :: l2 :: .val (.int x) :: L) S k n H Q ↔ W (pj lw) 39 26 (l0 :: l1 :: l2 :: .val (.int x) :: L) (.int x :: S) k n H Q := W_s (rfl : (pj lw).1 39 25 = some (.iload_n 3, 1, 0)) rfl rfl rfl
theorem w39_26 {x y : Int32} : W (pj lw) 39 26 L (.int y :: .int x :: S) k n H Q ↔ W (pj lw) 39 27 L (.int (x + y) :: S) k n H Q := W_s (rfl : (pj lw).1 39 26 = some (.iadd, 1, 0)) rfl rfl rfl
theorem w39_27 {i : Int32} {a : Nat} : W (pj lw) 39 27 L (.int i :: .ref a :: S) k n H Q ↔ (inA H a .long i = true ∧ W (pj lw) 39 28 L (elt H a i :: S) k n H Q) := W_laload (rfl : (pj lw).1 39 27 = some (.laload, 1, 0))
theorem w39_28 : W (pj lw) 39 28 L S k n H Q ↔ W (pj lw) 39 29 L (.long 0 :: S) k n H Q := W_s (rfl : (pj lw).1 39 28 = some (.lconst 0, 1, 0)) rfl rfl rfl
theorem w39_29 {x y : Int64} : W (pj lw) 39 29 L (.long y :: .long x :: S) k n H Q ↔ W (pj lw) 39 30 L (.int (Jvm.Free.XT.cmpL x y) :: S) k n H Q := W_s (rfl : (pj lw).1 39 29 = some (.lcmp, 1, 0)) rfl rfl rfl
theorem w39_30 {x : Int32} : W (pj lw) 39 30 L (.int x :: S) k n H Q ↔ (if x = 0 then W (pj lw) 39 36 L S k n H Q else W (pj lw) 39 33 L S k n H Q) := W_if_eq (rfl : (pj lw).1 39 30 = some (.ifCond .eq 6, 3, 0)) rfl
theorem w39_33 {x : Int32} {l0 l1 l2 l3 : Slot} : W (pj lw) 39 33 (l0 :: l1 :: l2 :: l3 :: .val (.int x) :: L) S k n H Q ↔ W (pj lw) 39 35 (l0 :: l1 :: l2 :: l3 :: .val (.int x) :: L) (.int x :: S) k n H Q := W_s (rfl : (pj lw).1 39 33 = some (.iload 4, 2, 0)) rfl rfl rfl
theorem w39_35 {x : Int32} : W (pj lw) 39 35 L (.int x :: S) k n H Q ↔ Q (some (.int x)) H := W_r (rfl : (pj lw).1 39 35 = some (.ireturn, 1, 0)) rfl
theorem w39_36 {x : Int32} {l0 l1 l2 l3 : Slot} : W (pj lw) 39 36 (l0 :: l1 :: l2 :: l3 :: .val (.int x) :: L) S k n H Q ↔ W (pj lw) 39 39 (l0 :: l1 :: l2 :: l3 :: .val (.int (x + 1)) :: L) S k n H Q := W_s (rfl : (pj lw).1 39 36 = some (.iinc 4 1, 3, 0)) rfl rfl rfl
theorem w39_39 : W (pj lw) 39 39 L S k n H Q ↔ W (pj lw) 39 3 L S k n H Q := W_goto (rfl : (pj lw).1 39 39 = some (.goto (-36), 3, 0)) rfl
theorem w39_42 : W (pj lw) 39 42 L S k n H Q ↔ W (pj lw) 39 43 L (.int (-1) :: S) k n H Q := W_s (rfl : (pj lw).1 39 42 = some (.iconst (-1), 1, 0)) rfl rfl rfl
theorem w39_43 {x : Int32} : W (pj lw) 39 43 L (.int x :: S) k n H Q ↔ Q (some (.int x)) H := W_r (rfl : (pj lw).1 39 43 = some (.ireturn, 1, 0)) rfl
theorem c41 {x0 : Nat} {x1 : Int32} {x2 : Int32} {x3 : Int32} {x4 : Int64} {x5 : Int64} : Cl (pj lw) 41 [.ref x0, .int x1, .int x2, .int x3, .long x4, .long x5] H Q ↔ W (pj lw) 41 0 [.val (.ref x0), .val (.int x1), .val (.int x2), .val (.int x3), .val (.long x4), .second, .val (.long x5), .second, .unset, .unset, .unset] [] 0 0 H Q := cl_unf rfl
theorem w41_0 {x : Int64} {l0 l1 l2 l3 l4 l5 : Slot} : W (pj lw) 41 0 (l0 :: l1 :: l2 :: l3 :: l4 :: l5 :: .val (.long x) :: L) S k n H Q ↔ W (pj lw) 41 2 (l0 :: l1 :: l2 :: l3 :: l4 :: l5 :: .val (.long x) :: L) (.long x :: S) k n H Q := W_s (rfl : (pj lw).1 41 0 = some (.lload 6, 2, 0)) rfl rfl rfl
theorem w41_2 : W (pj lw) 41 2 L S k n H Q ↔ W (pj lw) 41 3 L (.long 0 :: S) k n H Q := W_s (rfl : (pj lw).1 41 2 = some (.lconst 0, 1, 0)) rfl rfl rfl
theorem w41_3 {x y : Int64} : W (pj lw) 41 3 L (.long y :: .long x :: S) k n H Q ↔ W (pj lw) 41 4 L (.int (Jvm.Free.XT.cmpL x y) :: S) k n H Q := W_s (rfl : (pj lw).1 41 3 = some (.lcmp, 1, 0)) rfl rfl rfl
theorem w41_4 {x : Int32} : W (pj lw) 41 4 L (.int x :: S) k n H Q ↔ (if x = 0 then W (pj lw) 41 7 L S k n H Q else W (pj lw) 41 8 L S k n H Q) := W_if_ne (rfl : (pj lw).1 41 4 = some (.ifCond .ne 4, 3, 0)) rfl
theorem w41_7 : W (pj lw) 41 7 L [] k n H Q ↔ Q none H := W_r (rfl : (pj lw).1 41 7 = some (.return_, 1, 0)) rfl
theorem w41_8 {x : Nat} : W (pj lw) 41 8 (.val (.ref x) :: L) S k n H Q ↔ W (pj lw) 41 9 (.val (.ref x) :: L) (.ref x :: S) k n H Q := W_s (rfl : (pj lw).1 41 8 = some (.aload_n 0, 1, 0)) rfl rfl rfl
theorem w41_9 {a : Nat} : W (pj lw) 41 9 L (.ref a :: S) k n H Q ↔ (isO H a = true ∧ W (pj lw) 41 12 L (fld H a 22 :: S) k n H Q) := W_getf (rfl : (pj lw).1 41 9 = some (.getfield 44, 3, 22))
theorem w41_12 {x : Int32} {l0 : Slot} : W (pj lw) 41 12 (l0 :: .val (.int x) :: L) S k n H Q ↔ W (pj lw) 41 13 (l0 :: .val (.int x) :: L) (.int x :: S) k n H Q := W_s (rfl : (pj lw).1 41 12 = some (.iload_n 1, 1, 0)) rfl rfl rfl
theorem w41_13 : W (pj lw) 41 13 L S k n H Q ↔ W (pj lw) 41 15 L (.int 6 :: S) k n H Q := W_s (rfl : (pj lw).1 41 13 = some (.bipush 6, 2, 0)) rfl rfl rfl
theorem w41_15 {x y : Int32} : W (pj lw) 41 15 L (.int y :: .int x :: S) k n H Q ↔ W (pj lw) 41 16 L (.int (x * y) :: S) k n H Q := W_s (rfl : (pj lw).1 41 15 = some (.imul, 1, 0)) rfl rfl rfl
theorem w41_16 {x : Int32} {l0 l1 l2 : Slot} : W (pj lw) 41 16 (l0 :: l1 :: l2 :: .val (.int x) :: L) S k n H Q ↔ W (pj lw) 41 17 (l0 :: l1 :: l2 :: .val (.int x) :: L) (.int x :: S) k n H Q := W_s (rfl : (pj lw).1 41 16 = some (.iload_n 3, 1, 0)) rfl rfl rfl
theorem w41_17 {x y : Int32} : W (pj lw) 41 17 L (.int y :: .int x :: S) k n H Q ↔ W (pj lw) 41 18 L (.int (x + y) :: S) k n H Q := W_s (rfl : (pj lw).1 41 17 = some (.iadd, 1, 0)) rfl rfl rfl
theorem w41_18 {i : Int32} {a : Nat} : W (pj lw) 41 18 L (.int i :: .ref a :: S) k n H Q ↔ (inA H a .long i = true ∧ W (pj lw) 41 19 L (elt H a i :: S) k n H Q) := W_laload (rfl : (pj lw).1 41 18 = some (.laload, 1, 0))
theorem w41_19uu {x : Int64} {l0 l1 l2 l3 l4 l5 l6 l7 : Slot} : W (pj lw) 41 19 (l0 :: l1 :: l2 :: l3 :: l4 :: l5 :: l6 :: l7 :: .unset :: .unset :: L) (.long x :: S) k n H Q ↔ W (pj lw) 41 21 (l0 :: l1 :: l2 :: l3 :: l4 :: l5 :: l6 :: l7 :: .val (.long x) :: .second :: L) S k n H Q := W_lst (rfl : (pj lw).1 41 19 = some (.lstore 8, 2, 0)) rfl rfl rfl rfl
theorem w41_21 : W (pj lw) 41 21 L S k n H Q ↔ W (pj lw) 41 22 L (.int 0 :: S) k n H Q := W_s (rfl : (pj lw).1 41 21 = some (.iconst 0, 1, 0)) rfl rfl rfl
theorem w41_22 {x : Int32} {l0 l1 l2 l3 l4 l5 l6 l7 l8 l9 : Slot} : W (pj lw) 41 22 (l0 :: l1 :: l2 :: l3 :: l4 :: l5 :: l6 :: l7 :: l8 :: l9 :: .unset :: L) (.int x :: S) k n H Q ↔ W (pj lw) 41 24 (l0 :: l1 :: l2 :: l3 :: l4 :: l5 :: l6 :: l7 :: l8 :: l9 :: .val (.int x) :: L) S k n H Q := W_ist (rfl : (pj lw).1 41 22 = some (.istore 10, 2, 0)) rfl rfl
theorem w41_24 {x : Int32} {l0 l1 l2 l3 l4 l5 l6 l7 l8 l9 : Slot} : W (pj lw) 41 24 (l0 :: l1 :: l2 :: l3 :: l4 :: l5 :: l6 :: l7 :: l8 :: l9 :: .val (.int x) :: L) S k n H Q ↔ W (pj lw) 41 26 (l0 :: l1 :: l2 :: l3 :: l4 :: l5 :: l6 :: l7 :: l8 :: l9 :: .val (.int x) :: L) (.int x :: S) k n H Q := W_s (rfl : (pj lw).1 41 24 = some (.iload 10, 2, 0)) rfl rfl rfl
theorem w41_26 : W (pj lw) 41 26 L S k n H Q ↔ W (pj lw) 41 28 L (.int 6 :: S) k n H Q := W_s (rfl : (pj lw).1 41 26 = some (.bipush 6, 2, 0)) rfl rfl rfl
theorem w41_28 {x y : Int32} : W (pj lw) 41 28 L (.int y :: .int x :: S) k n H Q ↔ (if x < y then W (pj lw) 41 31 L S k n H Q else W (pj lw) 41 83 L S k n H Q) := W_icmp_ge (rfl : (pj lw).1 41 28 = some (.if_icmp .ge 55, 3, 0)) rfl
theorem w41_31 {x : Nat} : W (pj lw) 41 31 (.val (.ref x) :: L) S k n H Q ↔ W (pj lw) 41 32 (.val (.ref x) :: L) (.ref x :: S) k n H Q := W_s (rfl : (pj lw).1 41 31 = some (.aload_n 0, 1, 0)) rfl rfl rfl
theorem w41_32 {a : Nat} : W (pj lw) 41 32 L (.ref a :: S) k n H Q ↔ (isO H a = true ∧ W (pj lw) 41 35 L (fld H a 22 :: S) k n H Q) := W_getf (rfl : (pj lw).1 41 32 = some (.getfield 44, 3, 22))
theorem w41_35 {x : Int32} {l0 : Slot} : W (pj lw) 41 35 (l0 :: .val (.int x) :: L) S k n H Q ↔ W (pj lw) 41 36 (l0 :: .val (.int x) :: L) (.int x :: S) k n H Q := W_s (rfl : (pj lw).1 41 35 = some (.iload_n 1, 1, 0)) rfl rfl rfl
theorem w41_36 : W (pj lw) 41 36 L S k n H Q ↔ W (pj lw) 41 38 L (.int 6 :: S) k n H Q := W_s (rfl : (pj lw).1 41 36 = some (.bipush 6, 2, 0)) rfl rfl rfl
theorem w41_38 {x y : Int32} : W (pj lw) 41 38 L (.int y :: .int x :: S) k n H Q ↔ W (pj lw) 41 39 L (.int (x * y) :: S) k n H Q := W_s (rfl : (pj lw).1 41 38 = some (.imul, 1, 0)) rfl rfl rfl
theorem w41_39 {x : Int32} {l0 l1 l2 l3 l4 l5 l6 l7 l8 l9 : Slot} : W (pj lw) 41 39 (l0 :: l1 :: l2 :: l3 :: l4 :: l5 :: l6 :: l7 :: l8 :: l9 :: .val (.int x) :: L) S k n H Q ↔ W (pj lw) 41 41 (l0 :: l1 :: l2 :: l3 :: l4 :: l5 :: l6 :: l7 :: l8 :: l9 :: .val (.int x) :: L) (.int x :: S) k n H Q := W_s (rfl : (pj lw).1 41 39 = some (.iload 10, 2, 0)) rfl rfl rfl
theorem w41_41 {x y : Int32} : W (pj lw) 41 41 L (.int y :: .int x :: S) k n H Q ↔ W (pj lw) 41 42 L (.int (x + y) :: S) k n H Q := W_s (rfl : (pj lw).1 41 41 = some (.iadd, 1, 0)) rfl rfl rfl
theorem w41_42 {x : Int64} {l0 l1 l2 l3 : Slot} : W (pj lw) 41 42 (l0 :: l1 :: l2 :: l3 :: .val (.long x) :: L) S k n H Q ↔ W (pj lw) 41 44 (l0 :: l1 :: l2 :: l3 :: .val (.long x) :: L) (.long x :: S) k n H Q := W_s (rfl : (pj lw).1 41 42 = some (.lload 4, 2, 0)) rfl rfl rfl
theorem w41_44 {x : Nat} : W (pj lw) 41 44 (.val (.ref x) :: L) S k n H Q ↔ W (pj lw) 41 45 (.val (.ref x) :: L) (.ref x :: S) k n H Q := W_s (rfl : (pj lw).1 41 44 = some (.aload_n 0, 1, 0)) rfl rfl rfl
theorem w41_45 {a : Nat} : W (pj lw) 41 45 L (.ref a :: S) k n H Q ↔ (isO H a = true ∧ W (pj lw) 41 48 L (fld H a 22 :: S) k n H Q) := W_getf (rfl : (pj lw).1 41 45 = some (.getfield 44, 3, 22))
theorem w41_48 {x : Int32} {l0 : Slot} : W (pj lw) 41 48 (l0 :: .val (.int x) :: L) S k n H Q ↔ W (pj lw) 41 49 (l0 :: .val (.int x) :: L) (.int x :: S) k n H Q := W_s (rfl : (pj lw).1 41 48 = some (.iload_n 1, 1, 0)) rfl rfl rfl
theorem w41_49 : W (pj lw) 41 49 L S k n H Q ↔ W (pj lw) 41 51 L (.int 6 :: S) k n H Q := W_s (rfl : (pj lw).1 41 49 = some (.bipush 6, 2, 0)) rfl rfl rfl
theorem w41_51 {x y : Int32} : W (pj lw) 41 51 L (.int y :: .int x :: S) k n H Q ↔ W (pj lw) 41 52 L (.int (x * y) :: S) k n H Q := W_s (rfl : (pj lw).1 41 51 = some (.imul, 1, 0)) rfl rfl rfl
theorem w41_52 {x : Int32} {l0 l1 l2 l3 l4 l5 l6 l7 l8 l9 : Slot} : W (pj lw) 41 52 (l0 :: l1 :: l2 :: l3 :: l4 :: l5 :: l6 :: l7 :: l8 :: l9 :: .val (.int x) :: L) S k n H Q ↔ W (pj lw) 41 54 (l0 :: l1 :: l2 :: l3 :: l4 :: l5 :: l6 :: l7 :: l8 :: l9 :: .val (.int x) :: L) (.int x :: S) k n H Q := W_s (rfl : (pj lw).1 41 52 = some (.iload 10, 2, 0)) rfl rfl rfl
theorem w41_54 {x y : Int32} : W (pj lw) 41 54 L (.int y :: .int x :: S) k n H Q ↔ W (pj lw) 41 55 L (.int (x + y) :: S) k n H Q := W_s (rfl : (pj lw).1 41 54 = some (.iadd, 1, 0)) rfl rfl rfl
theorem w41_55 {i : Int32} {a : Nat} : W (pj lw) 41 55 L (.int i :: .ref a :: S) k n H Q ↔ (inA H a .long i = true ∧ W (pj lw) 41 56 L (elt H a i :: S) k n H Q) := W_laload (rfl : (pj lw).1 41 55 = some (.laload, 1, 0))
theorem w41_56 {x y : Int64} : W (pj lw) 41 56 L (.long y :: .long x :: S) k n H Q ↔ W (pj lw) 41 57 L (.long (x * y) :: S) k n H Q := W_s (rfl : (pj lw).1 41 56 = some (.lmul, 1, 0)) rfl rfl rfl
theorem w41_57 {x : Int64} {l0 l1 l2 l3 l4 l5 l6 l7 : Slot} : W (pj lw) 41 57 (l0 :: l1 :: l2 :: l3 :: l4 :: l5 :: l6 :: l7 :: .val (.long x) :: L) S k n H Q ↔ W (pj lw) 41 59 (l0 :: l1 :: l2 :: l3 :: l4 :: l5 :: l6 :: l7 :: .val (.long x) :: L) (.long x :: S) k n H Q := W_s (rfl : (pj lw).1 41 57 = some (.lload 8, 2, 0)) rfl rfl rfl
theorem w41_59 {x : Nat} : W (pj lw) 41 59 (.val (.ref x) :: L) S k n H Q ↔ W (pj lw) 41 60 (.val (.ref x) :: L) (.ref x :: S) k n H Q := W_s (rfl : (pj lw).1 41 59 = some (.aload_n 0, 1, 0)) rfl rfl rfl
theorem w41_60 {a : Nat} : W (pj lw) 41 60 L (.ref a :: S) k n H Q ↔ (isO H a = true ∧ W (pj lw) 41 63 L (fld H a 22 :: S) k n H Q) := W_getf (rfl : (pj lw).1 41 60 = some (.getfield 44, 3, 22))
theorem w41_63 {x : Int32} {l0 l1 : Slot} : W (pj lw) 41 63 (l0 :: l1 :: .val (.int x) :: L) S k n H Q ↔ W (pj lw) 41 64 (l0 :: l1 :: .val (.int x) :: L) (.int x :: S) k n H Q := W_s (rfl : (pj lw).1 41 63 = some (.iload_n 2, 1, 0)) rfl rfl rfl
theorem w41_64 : W (pj lw) 41 64 L S k n H Q ↔ W (pj lw) 41 66 L (.int 6 :: S) k n H Q := W_s (rfl : (pj lw).1 41 64 = some (.bipush 6, 2, 0)) rfl rfl rfl
theorem w41_66 {x y : Int32} : W (pj lw) 41 66 L (.int y :: .int x :: S) k n H Q ↔ W (pj lw) 41 67 L (.int (x * y) :: S) k n H Q := W_s (rfl : (pj lw).1 41 66 = some (.imul, 1, 0)) rfl rfl rfl
theorem w41_67 {x : Int32} {l0 l1 l2 l3 l4 l5 l6 l7 l8 l9 : Slot} : W (pj lw) 41 67 (l0 :: l1 :: l2 :: l3 :: l4 :: l5 :: l6 :: l7 :: l8 :: l9 :: .val (.int x) :: L) S k n H Q ↔ W (pj lw) 41 69 (l0 :: l1 :: l2 :: l3 :: l4 :: l5 :: l6 :: l7 :: l8 :: l9 :: .val (.int x) :: L) (.int x :: S) k n H Q := W_s (rfl : (pj lw).1 41 67 = some (.iload 10, 2, 0)) rfl rfl rfl
theorem w41_69 {x y : Int32} : W (pj lw) 41 69 L (.int y :: .int x :: S) k n H Q ↔ W (pj lw) 41 70 L (.int (x + y) :: S) k n H Q := W_s (rfl : (pj lw).1 41 69 = some (.iadd, 1, 0)) rfl rfl rfl
theorem w41_70 {i : Int32} {a : Nat} : W (pj lw) 41 70 L (.int i :: .ref a :: S) k n H Q ↔ (inA H a .long i = true ∧ W (pj lw) 41 71 L (elt H a i :: S) k n H Q) := W_laload (rfl : (pj lw).1 41 70 = some (.laload, 1, 0))
theorem w41_71 {x y : Int64} : W (pj lw) 41 71 L (.long y :: .long x :: S) k n H Q ↔ W (pj lw) 41 72 L (.long (x * y) :: S) k n H Q := W_s (rfl : (pj lw).1 41 71 = some (.lmul, 1, 0)) rfl rfl rfl
theorem w41_72 {x y : Int64} : W (pj lw) 41 72 L (.long y :: .long x :: S) k n H Q ↔ W (pj lw) 41 73 L (.long (x - y) :: S) k n H Q := W_s (rfl : (pj lw).1 41 72 = some (.lsub, 1, 0)) rfl rfl rfl
theorem w41_73 {x : Int64} {l0 l1 l2 l3 l4 l5 : Slot} : W (pj lw) 41 73 (l0 :: l1 :: l2 :: l3 :: l4 :: l5 :: .val (.long x) :: L) S k n H Q ↔ W (pj lw) 41 75 (l0 :: l1 :: l2 :: l3 :: l4 :: l5 :: .val (.long x) :: L) (.long x :: S) k n H Q := W_s (rfl : (pj lw).1 41 73 = some (.lload 6, 2, 0)) rfl rfl rfl
theorem w41_75 {x y : Int64} : W (pj lw) 41 75 L (.long y :: .long x :: S) k n H Q ↔ (¬ y = 0 ∧ W (pj lw) 41 76 L (.long (x / y) :: S) k n H Q) := W_ldiv (rfl : (pj lw).1 41 75 = some (.ldiv, 1, 0))
theorem w41_76 {x : Int64} {i : Int32} {a : Nat} : W (pj lw) 41 76 L (.long x :: .int i :: .ref a :: S) k n H Q ↔ (inAw H a .long i = true ∧ W (pj lw) 41 77 L S k n (wr H a i.toNatClampNeg (.long x)) Q) := W_lastore (rfl : (pj lw).1 41 76 = some (.lastore, 1, 0))
theorem w41_77 {x : Int32} {l0 l1 l2 l3 l4 l5 l6 l7 l8 l9 : Slot} : W (pj lw) 41 77 (l0 :: l1 :: l2 :: l3 :: l4 :: l5 :: l6 :: l7 :: l8 :: l9 :: .val (.int x) :: L) S k n H Q ↔ W (pj lw) 41 80 (l0 :: l1 :: l2 :: l3 :: l4 :: l5 :: l6 :: l7 :: l8 :: l9 :: .val (.int (x + 1)) :: L) S k n H Q := W_s (rfl : (pj lw).1 41 77 = some (.iinc 10 1, 3, 0)) rfl rfl rfl
theorem w41_80 : W (pj lw) 41 80 L S k n H Q ↔ W (pj lw) 41 24 L S k n H Q := W_goto (rfl : (pj lw).1 41 80 = some (.goto (-56), 3, 0)) rfl
theorem w41_83 : W (pj lw) 41 83 L [] k n H Q ↔ Q none H := W_r (rfl : (pj lw).1 41 83 = some (.return_, 1, 0)) rfl
theorem c42 {x0 : Nat} {x1 : Int32} : Cl (pj lw) 42 [.ref x0, .int x1] H Q ↔ W (pj lw) 42 0 [.val (.ref x0), .val (.int x1), .unset] [] 0 0 H Q := cl_unf rfl
theorem w42_0 : W (pj lw) 42 0 L S k n H Q ↔ W (pj lw) 42 1 L (.int 0 :: S) k n H Q := W_s (rfl : (pj lw).1 42 0 = some (.iconst 0, 1, 0)) rfl rfl rfl
theorem w42_1 {x : Int32} {l0 l1 : Slot} : W (pj lw) 42 1 (l0 :: l1 :: .unset :: L) (.int x :: S) k n H Q ↔ W (pj lw) 42 2 (l0 :: l1 :: .val (.int x) :: L) S k n H Q := W_istn (rfl : (pj lw).1 42 1 = some (.istore_n 2, 1, 0)) rfl rfl
theorem w42_2 {x : Int32} {l0 l1 : Slot} : W (pj lw) 42 2 (l0 :: l1 :: .val (.int x) :: L) S k n H Q ↔ W (pj lw) 42 3 (l0 :: l1 :: .val (.int x) :: L) (.int x :: S) k n H Q := W_s (rfl : (pj lw).1 42 2 = some (.iload_n 2, 1, 0)) rfl rfl rfl
theorem w42_3 {x : Int32} {l0 : Slot} : W (pj lw) 42 3 (l0 :: .val (.int x) :: L) S k n H Q ↔ W (pj lw) 42 4 (l0 :: .val (.int x) :: L) (.int x :: S) k n H Q := W_s (rfl : (pj lw).1 42 3 = some (.iload_n 1, 1, 0)) rfl rfl rfl
theorem w42_4 {x y : Int32} : W (pj lw) 42 4 L (.int y :: .int x :: S) k n H Q ↔ (if x < y then W (pj lw) 42 7 L S k n H Q else W (pj lw) 42 31 L S k n H Q) := W_icmp_ge (rfl : (pj lw).1 42 4 = some (.if_icmp .ge 27, 3, 0)) rfl
theorem w42_7 {x : Int32} {l0 l1 : Slot} : W (pj lw) 42 7 (l0 :: l1 :: .val (.int x) :: L) S k n H Q ↔ W (pj lw) 42 8 (l0 :: l1 :: .val (.int x) :: L) (.int x :: S) k n H Q := W_s (rfl : (pj lw).1 42 7 = some (.iload_n 2, 1, 0)) rfl rfl rfl
theorem w42_8 : W (pj lw) 42 8 L S k n H Q ↔ W (pj lw) 42 10 L (.int 9 :: S) k n H Q := W_s (rfl : (pj lw).1 42 8 = some (.bipush 9, 2, 0)) rfl rfl rfl
theorem w42_10 {x y : Int32} : W (pj lw) 42 10 L (.int y :: .int x :: S) k n H Q ↔ (if x < y then W (pj lw) 42 13 L S k n H Q else W (pj lw) 42 31 L S k n H Q) := W_icmp_ge (rfl : (pj lw).1 42 10 = some (.if_icmp .ge 21, 3, 0)) rfl
theorem w42_13 {x : Nat} : W (pj lw) 42 13 (.val (.ref x) :: L) S k n H Q ↔ W (pj lw) 42 14 (.val (.ref x) :: L) (.ref x :: S) k n H Q := W_s (rfl : (pj lw).1 42 13 = some (.aload_n 0, 1, 0)) rfl rfl rfl
theorem w42_14 {a : Nat} : W (pj lw) 42 14 L (.ref a :: S) k n H Q ↔ (isO H a = true ∧ W (pj lw) 42 17 L (fld H a 24 :: S) k n H Q) := W_getf (rfl : (pj lw).1 42 14 = some (.getfield 50, 3, 24))
theorem w42_17 {x : Int32} {l0 l1 : Slot} : W (pj lw) 42 17 (l0 :: l1 :: .val (.int x) :: L) S k n H Q ↔ W (pj lw) 42 18 (l0 :: l1 :: .val (.int x) :: L) (.int x :: S) k n H Q := W_s (rfl : (pj lw).1 42 17 = some (.iload_n 2, 1, 0)) rfl rfl rfl
theorem w42_18 {x : Nat} : W (pj lw) 42 18 (.val (.ref x) :: L) S k n H Q ↔ W (pj lw) 42 19 (.val (.ref x) :: L) (.ref x :: S) k n H Q := W_s (rfl : (pj lw).1 42 18 = some (.aload_n 0, 1, 0)) rfl rfl rfl
theorem w42_19 {a : Nat} : W (pj lw) 42 19 L (.ref a :: S) k n H Q ↔ (isO H a = true ∧ W (pj lw) 42 22 L (fld H a 23 :: S) k n H Q) := W_getf (rfl : (pj lw).1 42 19 = some (.getfield 47, 3, 23))
theorem w42_22 {x : Int32} {l0 l1 : Slot} : W (pj lw) 42 22 (l0 :: l1 :: .val (.int x) :: L) S k n H Q ↔ W (pj lw) 42 23 (l0 :: l1 :: .val (.int x) :: L) (.int x :: S) k n H Q := W_s (rfl : (pj lw).1 42 22 = some (.iload_n 2, 1, 0)) rfl rfl rfl
theorem w42_23 {i : Int32} {a : Nat} : W (pj lw) 42 23 L (.int i :: .ref a :: S) k n H Q ↔ (inA H a .int i = true ∧ W (pj lw) 42 24 L (elt H a i :: S) k n H Q) := W_iaload (rfl : (pj lw).1 42 23 = some (.iaload, 1, 0))
theorem w42_24 {x i : Int32} {a : Nat} : W (pj lw) 42 24 L (.int x :: .int i :: .ref a :: S) k n H Q ↔ (inAw H a .int i = true ∧ W (pj lw) 42 25 L S k n (wr H a i.toNatClampNeg (.int x)) Q) := W_iastore (rfl : (pj lw).1 42 24 = some (.iastore, 1, 0))
theorem w42_25 {x : Int32} {l0 l1 : Slot} : W (pj lw) 42 25 (l0 :: l1 :: .val (.int x) :: L) S k n H Q ↔ W (pj lw) 42 28 (l0 :: l1 :: .val (.int (x + 1)) :: L) S k n H Q := W_s (rfl : (pj lw).1 42 25 = some (.iinc 2 1, 3, 0)) rfl rfl rfl
theorem w42_28 : W (pj lw) 42 28 L S k n H Q ↔ W (pj lw) 42 2 L S k n H Q := W_goto (rfl : (pj lw).1 42 28 = some (.goto (-26), 3, 0)) rfl
theorem w42_31 : W (pj lw) 42 31 L S k n H Q ↔ W (pj lw) 42 32 L (.int 0 :: S) k n H Q := W_s (rfl : (pj lw).1 42 31 = some (.iconst 0, 1, 0)) rfl rfl rfl
theorem w42_32i {y : Int32} {x : Int32} {l0 l1 : Slot} : W (pj lw) 42 32 (l0 :: l1 :: .val (.int y) :: L) (.int x :: S) k n H Q ↔ W (pj lw) 42 33 (l0 :: l1 :: .val (.int x) :: L) S k n H Q := W_istn (rfl : (pj lw).1 42 32 = some (.istore_n 2, 1, 0)) rfl rfl
theorem w42_33 {x : Int32} {l0 l1 : Slot} : W (pj lw) 42 33 (l0 :: l1 :: .val (.int x) :: L) S k n H Q ↔ W (pj lw) 42 34 (l0 :: l1 :: .val (.int x) :: L) (.int x :: S) k n H Q := W_s (rfl : (pj lw).1 42 33 = some (.iload_n 2, 1, 0)) rfl rfl rfl
theorem w42_34 {x : Nat} : W (pj lw) 42 34 (.val (.ref x) :: L) S k n H Q ↔ W (pj lw) 42 35 (.val (.ref x) :: L) (.ref x :: S) k n H Q := W_s (rfl : (pj lw).1 42 34 = some (.aload_n 0, 1, 0)) rfl rfl rfl
theorem w42_35 {a : Nat} : W (pj lw) 42 35 L (.ref a :: S) k n H Q ↔ (isO H a = true ∧ W (pj lw) 42 38 L (fld H a 11 :: S) k n H Q) := W_getf (rfl : (pj lw).1 42 35 = some (.getfield 84, 3, 11))
theorem w42_38 {x y : Int32} : W (pj lw) 42 38 L (.int y :: .int x :: S) k n H Q ↔ (if x < y then W (pj lw) 42 41 L S k n H Q else W (pj lw) 42 65 L S k n H Q) := W_icmp_ge (rfl : (pj lw).1 42 38 = some (.if_icmp .ge 27, 3, 0)) rfl
theorem w42_41 {x : Int32} {l0 l1 : Slot} : W (pj lw) 42 41 (l0 :: l1 :: .val (.int x) :: L) S k n H Q ↔ W (pj lw) 42 42 (l0 :: l1 :: .val (.int x) :: L) (.int x :: S) k n H Q := W_s (rfl : (pj lw).1 42 41 = some (.iload_n 2, 1, 0)) rfl rfl rfl
theorem w42_42 : W (pj lw) 42 42 L S k n H Q ↔ W (pj lw) 42 44 L (.int 6 :: S) k n H Q := W_s (rfl : (pj lw).1 42 42 = some (.bipush 6, 2, 0)) rfl rfl rfl
theorem w42_44 {x y : Int32} : W (pj lw) 42 44 L (.int y :: .int x :: S) k n H Q ↔ (if x < y then W (pj lw) 42 47 L S k n H Q else W (pj lw) 42 65 L S k n H Q) := W_icmp_ge (rfl : (pj lw).1 42 44 = some (.if_icmp .ge 21, 3, 0)) rfl
theorem w42_47 {x : Nat} : W (pj lw) 42 47 (.val (.ref x) :: L) S k n H Q ↔ W (pj lw) 42 48 (.val (.ref x) :: L) (.ref x :: S) k n H Q := W_s (rfl : (pj lw).1 42 47 = some (.aload_n 0, 1, 0)) rfl rfl rfl
theorem w42_48 {a : Nat} : W (pj lw) 42 48 L (.ref a :: S) k n H Q ↔ (isO H a = true ∧ W (pj lw) 42 51 L (fld H a 25 :: S) k n H Q) := W_getf (rfl : (pj lw).1 42 48 = some (.getfield 53, 3, 25))
theorem w42_51 {x : Int32} {l0 l1 : Slot} : W (pj lw) 42 51 (l0 :: l1 :: .val (.int x) :: L) S k n H Q ↔ W (pj lw) 42 52 (l0 :: l1 :: .val (.int x) :: L) (.int x :: S) k n H Q := W_s (rfl : (pj lw).1 42 51 = some (.iload_n 2, 1, 0)) rfl rfl rfl
theorem w42_52 {x : Nat} : W (pj lw) 42 52 (.val (.ref x) :: L) S k n H Q ↔ W (pj lw) 42 53 (.val (.ref x) :: L) (.ref x :: S) k n H Q := W_s (rfl : (pj lw).1 42 52 = some (.aload_n 0, 1, 0)) rfl rfl rfl
theorem w42_53 {x : Int32} {l0 : Slot} : W (pj lw) 42 53 (l0 :: .val (.int x) :: L) S k n H Q ↔ W (pj lw) 42 54 (l0 :: .val (.int x) :: L) (.int x :: S) k n H Q := W_s (rfl : (pj lw).1 42 53 = some (.iload_n 1, 1, 0)) rfl rfl rfl
theorem w42_54 {x : Int32} {l0 l1 : Slot} : W (pj lw) 42 54 (l0 :: l1 :: .val (.int x) :: L) S k n H Q ↔ W (pj lw) 42 55 (l0 :: l1 :: .val (.int x) :: L) (.int x :: S) k n H Q := W_s (rfl : (pj lw).1 42 54 = some (.iload_n 2, 1, 0)) rfl rfl rfl
theorem w42_55 {a : Nat} {x0 : Int32} {x1 : Int32} : W (pj lw) 42 55 L (.int x1 :: .int x0 :: .ref a :: S) k n H Q ↔ ((isO H a = true ∧ cs S + (6 + 11) + 44 ≤ 63) ∧ Cl (pj lw) 43 [.ref a, .int x0, .int x1] H (fun v H => W (pj lw) 42 58 L (v.toList ++ S) k n H Q)) := W_inst (as := [.int x0, .int x1]) (rfl : (pj lw).1 42 55 = some (.invokevirtual 188, 3, 43)) rfl rfl rfl (Nat.le_of_ble_eq_true rfl) (Nat.le_of_ble_eq_true rfl) ⟨rfl, rfl⟩
theorem w42_58 {x : Int64} {i : Int32} {a : Nat} : W (pj lw) 42 58 L (.long x :: .int i :: .ref a :: S) k n H Q ↔ (inAw H a .long i = true ∧ W (pj lw) 42 59 L S k n (wr H a i.toNatClampNeg (.long x)) Q) := W_lastore (rfl : (pj lw).1 42 58 = some (.lastore, 1, 0))
theorem w42_59 {x : Int32} {l0 l1 : Slot} : W (pj lw) 42 59 (l0 :: l1 :: .val (.int x) :: L) S k n H Q ↔ W (pj lw) 42 62 (l0 :: l1 :: .val (.int (x + 1)) :: L) S k n H Q := W_s (rfl : (pj lw).1 42 59 = some (.iinc 2 1, 3, 0)) rfl rfl rfl
theorem w42_62 : W (pj lw) 42 62 L S k n H Q ↔ W (pj lw) 42 33 L S k n H Q := W_goto (rfl : (pj lw).1 42 62 = some (.goto (-29), 3, 0)) rfl
theorem w42_65 {x : Nat} : W (pj lw) 42 65 (.val (.ref x) :: L) S k n H Q ↔ W (pj lw) 42 66 (.val (.ref x) :: L) (.ref x :: S) k n H Q := W_s (rfl : (pj lw).1 42 65 = some (.aload_n 0, 1, 0)) rfl rfl rfl
theorem w42_66 {a : Nat} : W (pj lw) 42 66 L (.ref a :: S) k n H Q ↔ ((isO H a = true ∧ cs S + (8 + 11) + 23 ≤ 63) ∧ Cl (pj lw) 45 [.ref a] H (fun v H => W (pj lw) 42 69 L (v.toList ++ S) k n H Q)) := W_inst (as := []) (rfl : (pj lw).1 42 66 = some (.invokevirtual 192, 3, 45)) rfl rfl rfl (Nat.le_of_ble_eq_true rfl) (Nat.le_of_ble_eq_true rfl) ⟨rfl, rfl⟩
theorem w42_69 {x : Int32} : W (pj lw) 42 69 L (.int x :: S) k n H Q ↔ ((x = 0 ∨ x = 1) ∧ Q (some (.int x)) H) := W_rz (rfl : (pj lw).1 42 69 = some (.ireturn, 1, 0)) rfl
theorem c43 {x0 : Nat} {x1 : Int32} {x2 : Int32} : Cl (pj lw) 43 [.ref x0, .int x1, .int x2] H Q ↔ W (pj lw) 43 0 [.val (.ref x0), .val (.int x1), .val (.int x2), .unset, .unset, .unset] [] 0 0 H Q := cl_unf rfl
theorem w43_0 {x : Nat} : W (pj lw) 43 0 (.val (.ref x) :: L) S k n H Q ↔ W (pj lw) 43 1 (.val (.ref x) :: L) (.ref x :: S) k n H Q := W_s (rfl : (pj lw).1 43 0 = some (.aload_n 0, 1, 0)) rfl rfl rfl
theorem w43_1 {x : Int32} {l0 : Slot} : W (pj lw) 43 1 (l0 :: .val (.int x) :: L) S k n H Q ↔ W (pj lw) 43 2 (l0 :: .val (.int x) :: L) (.int x :: S) k n H Q := W_s (rfl : (pj lw).1 43 1 = some (.iload_n 1, 1, 0)) rfl rfl rfl
theorem w43_2 {x : Int32} {l0 l1 : Slot} : W (pj lw) 43 2 (l0 :: l1 :: .val (.int x) :: L) S k n H Q ↔ W (pj lw) 43 3 (l0 :: l1 :: .val (.int x) :: L) (.int x :: S) k n H Q := W_s (rfl : (pj lw).1 43 2 = some (.iload_n 2, 1, 0)) rfl rfl rfl
theorem w43_3 {a : Nat} {x0 : Int32} {x1 : Int32} : W (pj lw) 43 3 L (.int x1 :: .int x0 :: .ref a :: S) k n H Q ↔ ((isO H a = true ∧ cs S + (6 + 11) + 0 ≤ 44) ∧ Cl (pj lw) 44 [.ref a, .int x0, .int x1] H (fun v H => W (pj lw) 43 6 L (v.toList ++ S) k n H Q)) := W_inst (as := [.int x0, .int x1]) (rfl : (pj lw).1 43 3 = some (.invokevirtual 195, 3, 44)) rfl rfl rfl (Nat.le_of_ble_eq_true rfl) (Nat.le_of_ble_eq_true rfl) ⟨rfl, rfl⟩
theorem w43_6 {x : Nat} : W (pj lw) 43 6 (.val (.ref x) :: L) S k n H Q ↔ W (pj lw) 43 7 (.val (.ref x) :: L) (.ref x :: S) k n H Q := W_s (rfl : (pj lw).1 43 6 = some (.aload_n 0, 1, 0)) rfl rfl rfl
theorem w43_7 {x : Int32} {l0 : Slot} : W (pj lw) 43 7 (l0 :: .val (.int x) :: L) S k n H Q ↔ W (pj lw) 43 8 (l0 :: .val (.int x) :: L) (.int x :: S) k n H Q := W_s (rfl : (pj lw).1 43 7 = some (.iload_n 1, 1, 0)) rfl rfl rfl
theorem w43_8 {x : Int32} {l0 : Slot} : W (pj lw) 43 8 (l0 :: .val (.int x) :: L) S k n H Q ↔ W (pj lw) 43 9 (l0 :: .val (.int x) :: L) (.int x :: S) k n H Q := W_s (rfl : (pj lw).1 43 8 = some (.iload_n 1, 1, 0)) rfl rfl rfl
theorem w43_9 {a : Nat} {x0 : Int32} {x1 : Int32} : W (pj lw) 43 9 L (.int x1 :: .int x0 :: .ref a :: S) k n H Q ↔ ((isO H a = true ∧ cs S + (11 + 11) + 22 ≤ 44) ∧ Cl (pj lw) 38 [.ref a, .int x0, .int x1] H (fun v H => W (pj lw) 43 12 L (v.toList ++ S) k n H Q)) := W_inst (as := [.int x0, .int x1]) (rfl : (pj lw).1 43 9 = some (.invokevirtual 105, 3, 38)) rfl rfl rfl (Nat.le_of_ble_eq_true rfl) (Nat.le_of_ble_eq_true rfl) ⟨rfl, rfl⟩
theorem w43_12 {x : Int32} {l0 l1 l2 : Slot} : W (pj lw) 43 12 (l0 :: l1 :: l2 :: .unset :: L) (.int x :: S) k n H Q ↔ W (pj lw) 43 13 (l0 :: l1 :: l2 :: .val (.int x) :: L) S k n H Q := W_istn (rfl : (pj lw).1 43 12 = some (.istore_n 3, 1, 0)) rfl rfl
theorem w43_13 {x : Int32} {l0 l1 l2 : Slot} : W (pj lw) 43 13 (l0 :: l1 :: l2 :: .val (.int x) :: L) S k n H Q ↔ W (pj lw) 43 14 (l0 :: l1 :: l2 :: .val (.int x) :: L) (.int x :: S) k n H Q := W_s (rfl : (pj lw).1 43 13 = some (.iload_n 3, 1, 0)) rfl rfl rfl
theorem w43_14 {x : Int32} {l0 : Slot} : W (pj lw) 43 14 (l0 :: .val (.int x) :: L) S k n H Q ↔ W (pj lw) 43 15 (l0 :: .val (.int x) :: L) (.int x :: S) k n H Q := W_s (rfl : (pj lw).1 43 14 = some (.iload_n 1, 1, 0)) rfl rfl rfl
theorem w43_15 {x y : Int32} : W (pj lw) 43 15 L (.int y :: .int x :: S) k n H Q ↔ (if x = y then W (pj lw) 43 18 L S k n H Q else W (pj lw) 43 31 L S k n H Q) := W_icmp_ne (rfl : (pj lw).1 43 15 = some (.if_icmp .ne 16, 3, 0)) rfl
theorem w43_18 {x : Nat} : W (pj lw) 43 18 (.val (.ref x) :: L) S k n H Q ↔ W (pj lw) 43 19 (.val (.ref x) :: L) (.ref x :: S) k n H Q := W_s (rfl : (pj lw).1 43 18 = some (.aload_n 0, 1, 0)) rfl rfl rfl
theorem w43_19 {a : Nat} : W (pj lw) 43 19 L (.ref a :: S) k n H Q ↔ (isO H a = true ∧ W (pj lw) 43 22 L (fld H a 26 :: S) k n H Q) := W_getf (rfl : (pj lw).1 43 19 = some (.getfield 169, 3, 26))
theorem w43_22 {x : Int32} : W (pj lw) 43 22 L (.int x :: S) k n H Q ↔ W (pj lw) 43 23 L (.long x.toInt64 :: S) k n H Q := W_s (rfl : (pj lw).1 43 22 = some (.i2l, 1, 0)) rfl rfl rfl
theorem w43_23 {x : Nat} : W (pj lw) 43 23 (.val (.ref x) :: L) S k n H Q ↔ W (pj lw) 43 24 (.val (.ref x) :: L) (.ref x :: S) k n H Q := W_s (rfl : (pj lw).1 43 23 = some (.aload_n 0, 1, 0)) rfl rfl rfl
theorem w43_24 {a : Nat} : W (pj lw) 43 24 L (.ref a :: S) k n H Q ↔ (isO H a = true ∧ W (pj lw) 43 27 L (fld H a 27 :: S) k n H Q) := W_getf (rfl : (pj lw).1 43 24 = some (.getfield 172, 3, 27))
theorem w43_27 {x y : Int64} : W (pj lw) 43 27 L (.long y :: .long x :: S) k n H Q ↔ W (pj lw) 43 28 L (.long (x * y) :: S) k n H Q := W_s (rfl : (pj lw).1 43 27 = some (.lmul, 1, 0)) rfl rfl rfl
theorem w43_28 : W (pj lw) 43 28 L S k n H Q ↔ W (pj lw) 43 32 L S k n H Q := W_goto (rfl : (pj lw).1 43 28 = some (.goto 4, 3, 0)) rfl
theorem w43_31 : W (pj lw) 43 31 L S k n H Q ↔ W (pj lw) 43 32 L (.long 0 :: S) k n H Q := W_s (rfl : (pj lw).1 43 31 = some (.lconst 0, 1, 0)) rfl rfl rfl
theorem w43_32uu {x : Int64} {l0 l1 l2 l3 : Slot} : W (pj lw) 43 32 (l0 :: l1 :: l2 :: l3 :: .unset :: .unset :: L) (.long x :: S) k n H Q ↔ W (pj lw) 43 34 (l0 :: l1 :: l2 :: l3 :: .val (.long x) :: .second :: L) S k n H Q := W_lst (rfl : (pj lw).1 43 32 = some (.lstore 4, 2, 0)) rfl rfl rfl rfl
theorem w43_34 {x : Int32} {l0 l1 : Slot} : W (pj lw) 43 34 (l0 :: l1 :: .val (.int x) :: L) S k n H Q ↔ W (pj lw) 43 35 (l0 :: l1 :: .val (.int x) :: L) (.int x :: S) k n H Q := W_s (rfl : (pj lw).1 43 34 = some (.iload_n 2, 1, 0)) rfl rfl rfl
theorem w43_35 : W (pj lw) 43 35 L S k n H Q ↔ W (pj lw) 43 36 L (.int 2 :: S) k n H Q := W_s (rfl : (pj lw).1 43 35 = some (.iconst 2, 1, 0)) rfl rfl rfl
theorem w43_36 {x y : Int32} : W (pj lw) 43 36 L (.int y :: .int x :: S) k n H Q ↔ (¬ y = 0 ∧ W (pj lw) 43 37 L (.int (x % y) :: S) k n H Q) := W_irem (rfl : (pj lw).1 43 36 = some (.irem, 1, 0))
theorem w43_37 {x : Int32} : W (pj lw) 43 37 L (.int x :: S) k n H Q ↔ (if x = 0 then W (pj lw) 43 40 L S k n H Q else W (pj lw) 43 45 L S k n H Q) := W_if_ne (rfl : (pj lw).1 43 37 = some (.ifCond .ne 8, 3, 0)) rfl
theorem w43_40 {x : Int64} {l0 l1 l2 l3 : Slot} : W (pj lw) 43 40 (l0 :: l1 :: l2 :: l3 :: .val (.long x) :: L) S k n H Q ↔ W (pj lw) 43 42 (l0 :: l1 :: l2 :: l3 :: .val (.long x) :: L) (.long x :: S) k n H Q := W_s (rfl : (pj lw).1 43 40 = some (.lload 4, 2, 0)) rfl rfl rfl
theorem w43_42 : W (pj lw) 43 42 L S k n H Q ↔ W (pj lw) 43 48 L S k n H Q := W_goto (rfl : (pj lw).1 43 42 = some (.goto 6, 3, 0)) rfl
theorem w43_45 {x : Int64} {l0 l1 l2 l3 : Slot} : W (pj lw) 43 45 (l0 :: l1 :: l2 :: l3 :: .val (.long x) :: L) S k n H Q ↔ W (pj lw) 43 47 (l0 :: l1 :: l2 :: l3 :: .val (.long x) :: L) (.long x :: S) k n H Q := W_s (rfl : (pj lw).1 43 45 = some (.lload 4, 2, 0)) rfl rfl rfl
theorem w43_47 {x : Int64} : W (pj lw) 43 47 L (.long x :: S) k n H Q ↔ W (pj lw) 43 48 L (.long (-x) :: S) k n H Q := W_s (rfl : (pj lw).1 43 47 = some (.lneg, 1, 0)) rfl rfl rfl
theorem w43_48 {x : Int64} : W (pj lw) 43 48 L (.long x :: S) k n H Q ↔ Q (some (.long x)) H := W_r (rfl : (pj lw).1 43 48 = some (.lreturn, 1, 0)) rfl
theorem c44 {x0 : Nat} {x1 : Int32} {x2 : Int32} : Cl (pj lw) 44 [.ref x0, .int x1, .int x2] H Q ↔ W (pj lw) 44 0 [.val (.ref x0), .val (.int x1), .val (.int x2), .unset, .unset, .unset] [] 0 0 H Q := cl_unf rfl
theorem w44_0 : W (pj lw) 44 0 L S k n H Q ↔ W (pj lw) 44 1 L (.int 0 :: S) k n H Q := W_s (rfl : (pj lw).1 44 0 = some (.iconst 0, 1, 0)) rfl rfl rfl
theorem w44_1 {x : Int32} {l0 l1 l2 : Slot} : W (pj lw) 44 1 (l0 :: l1 :: l2 :: .unset :: L) (.int x :: S) k n H Q ↔ W (pj lw) 44 2 (l0 :: l1 :: l2 :: .val (.int x) :: L) S k n H Q := W_istn (rfl : (pj lw).1 44 1 = some (.istore_n 3, 1, 0)) rfl rfl
theorem w44_2 {x : Int32} {l0 l1 l2 : Slot} : W (pj lw) 44 2 (l0 :: l1 :: l2 :: .val (.int x) :: L) S k n H Q ↔ W (pj lw) 44 3 (l0 :: l1 :: l2 :: .val (.int x) :: L) (.int x :: S) k n H Q := W_s (rfl : (pj lw).1 44 2 = some (.iload_n 3, 1, 0)) rfl rfl rfl
theorem w44_3 : W (pj lw) 44 3 L S k n H Q ↔ W (pj lw) 44 5 L (.int 54 :: S) k n H Q := W_s (rfl : (pj lw).1 44 3 = some (.bipush 54, 2, 0)) rfl rfl rfl
theorem w44_5 {x y : Int32} : W (pj lw) 44 5 L (.int y :: .int x :: S) k n H Q ↔ (if x < y then W (pj lw) 44 8 L S k n H Q else W (pj lw) 44 21 L S k n H Q) := W_icmp_ge (rfl : (pj lw).1 44 5 = some (.if_icmp .ge 16, 3, 0)) rfl
theorem w44_8 {x : Nat} : W (pj lw) 44 8 (.val (.ref x) :: L) S k n H Q ↔ W (pj lw) 44 9 (.val (.ref x) :: L) (.ref x :: S) k n H Q := W_s (rfl : (pj lw).1 44 8 = some (.aload_n 0, 1, 0)) rfl rfl rfl
theorem w44_9 {a : Nat} : W (pj lw) 44 9 L (.ref a :: S) k n H Q ↔ (isO H a = true ∧ W (pj lw) 44 12 L (fld H a 22 :: S) k n H Q) := W_getf (rfl : (pj lw).1 44 9 = some (.getfield 44, 3, 22))
theorem w44_12 {x : Int32} {l0 l1 l2 : Slot} : W (pj lw) 44 12 (l0 :: l1 :: l2 :: .val (.int x) :: L) S k n H Q ↔ W (pj lw) 44 13 (l0 :: l1 :: l2 :: .val (.int x) :: L) (.int x :: S) k n H Q := W_s (rfl : (pj lw).1 44 12 = some (.iload_n 3, 1, 0)) rfl rfl rfl
theorem w44_13 : W (pj lw) 44 13 L S k n H Q ↔ W (pj lw) 44 14 L (.long 0 :: S) k n H Q := W_s (rfl : (pj lw).1 44 13 = some (.lconst 0, 1, 0)) rfl rfl rfl
theorem w44_14 {x : Int64} {i : Int32} {a : Nat} : W (pj lw) 44 14 L (.long x :: .int i :: .ref a :: S) k n H Q ↔ (inAw H a .long i = true ∧ W (pj lw) 44 15 L S k n (wr H a i.toNatClampNeg (.long x)) Q) := W_lastore (rfl : (pj lw).1 44 14 = some (.lastore, 1, 0))
theorem w44_15 {x : Int32} {l0 l1 l2 : Slot} : W (pj lw) 44 15 (l0 :: l1 :: l2 :: .val (.int x) :: L) S k n H Q ↔ W (pj lw) 44 18 (l0 :: l1 :: l2 :: .val (.int (x + 1)) :: L) S k n H Q := W_s (rfl : (pj lw).1 44 15 = some (.iinc 3 1, 3, 0)) rfl rfl rfl
theorem w44_18 : W (pj lw) 44 18 L S k n H Q ↔ W (pj lw) 44 2 L S k n H Q := W_goto (rfl : (pj lw).1 44 18 = some (.goto (-16), 3, 0)) rfl
theorem w44_21 : W (pj lw) 44 21 L S k n H Q ↔ W (pj lw) 44 22 L (.int 0 :: S) k n H Q := W_s (rfl : (pj lw).1 44 21 = some (.iconst 0, 1, 0)) rfl rfl rfl
theorem w44_22i {y : Int32} {x : Int32} {l0 l1 l2 : Slot} : W (pj lw) 44 22 (l0 :: l1 :: l2 :: .val (.int y) :: L) (.int x :: S) k n H Q ↔ W (pj lw) 44 23 (l0 :: l1 :: l2 :: .val (.int x) :: L) S k n H Q := W_istn (rfl : (pj lw).1 44 22 = some (.istore_n 3, 1, 0)) rfl rfl
theorem w44_23 {x : Int32} {l0 l1 l2 : Slot} : W (pj lw) 44 23 (l0 :: l1 :: l2 :: .val (.int x) :: L) S k n H Q ↔ W (pj lw) 44 24 (l0 :: l1 :: l2 :: .val (.int x) :: L) (.int x :: S) k n H Q := W_s (rfl : (pj lw).1 44 23 = some (.iload_n 3, 1, 0)) rfl rfl rfl
theorem w44_24 {x : Int32} {l0 : Slot} : W (pj lw) 44 24 (l0 :: .val (.int x) :: L) S k n H Q ↔ W (pj lw) 44 25 (l0 :: .val (.int x) :: L) (.int x :: S) k n H Q := W_s (rfl : (pj lw).1 44 24 = some (.iload_n 1, 1, 0)) rfl rfl rfl
theorem w44_25 {x y : Int32} : W (pj lw) 44 25 L (.int y :: .int x :: S) k n H Q ↔ (if x < y then W (pj lw) 44 28 L S k n H Q else W (pj lw) 44 113 L S k n H Q) := W_icmp_ge (rfl : (pj lw).1 44 25 = some (.if_icmp .ge 88, 3, 0)) rfl
theorem w44_28 {x : Int32} {l0 l1 l2 : Slot} : W (pj lw) 44 28 (l0 :: l1 :: l2 :: .val (.int x) :: L) S k n H Q ↔ W (pj lw) 44 29 (l0 :: l1 :: l2 :: .val (.int x) :: L) (.int x :: S) k n H Q := W_s (rfl : (pj lw).1 44 28 = some (.iload_n 3, 1, 0)) rfl rfl rfl
theorem w44_29 : W (pj lw) 44 29 L S k n H Q ↔ W (pj lw) 44 31 L (.int 6 :: S) k n H Q := W_s (rfl : (pj lw).1 44 29 = some (.bipush 6, 2, 0)) rfl rfl rfl
theorem w44_31 {x y : Int32} : W (pj lw) 44 31 L (.int y :: .int x :: S) k n H Q ↔ (if x < y then W (pj lw) 44 34 L S k n H Q else W (pj lw) 44 113 L S k n H Q) := W_icmp_ge (rfl : (pj lw).1 44 31 = some (.if_icmp .ge 82, 3, 0)) rfl
theorem w44_34 : W (pj lw) 44 34 L S k n H Q ↔ W (pj lw) 44 35 L (.int 0 :: S) k n H Q := W_s (rfl : (pj lw).1 44 34 = some (.iconst 0, 1, 0)) rfl rfl rfl
theorem w44_35i {y : Int32} {x : Int32} {l0 l1 l2 l3 : Slot} : W (pj lw) 44 35 (l0 :: l1 :: l2 :: l3 :: .val (.int y) :: L) (.int x :: S) k n H Q ↔ W (pj lw) 44 37 (l0 :: l1 :: l2 :: l3 :: .val (.int x) :: L) S k n H Q := W_ist (rfl : (pj lw).1 44 35 = some (.istore 4, 2, 0)) rfl rfl
theorem w44_35 {x : Int32} {l0 l1 l2 l3 : Slot} : W (pj lw) 44 35 (l0 :: l1 :: l2 :: l3 :: .unset :: L) (.int x :: S) k n H Q ↔ W (pj lw) 44 37 (l0 :: l1 :: l2 :: l3 :: .val (.int x) :: L) S k n H Q := W_ist (rfl : (pj lw).1 44 35 = some (.istore 4, 2, 0)) rfl rfl
theorem w44_37 : W (pj lw) 44 37 L S k n H Q ↔ W (pj lw) 44 38 L (.int 0 :: S) k n H Q := W_s (rfl : (pj lw).1 44 37 = some (.iconst 0, 1, 0)) rfl rfl rfl
theorem w44_38i {y : Int32} {x : Int32} {l0 l1 l2 l3 l4 : Slot} : W (pj lw) 44 38 (l0 :: l1 :: l2 :: l3 :: l4 :: .val (.int y) :: L) (.int x :: S) k n H Q ↔ W (pj lw) 44 40 (l0 :: l1 :: l2 :: l3 :: l4 :: .val (.int x) :: L) S k n H Q := W_ist (rfl : (pj lw).1 44 38 = some (.istore 5, 2, 0)) rfl rfl
theorem w44_38 {x : Int32} {l0 l1 l2 l3 l4 : Slot} : W (pj lw) 44 38 (l0 :: l1 :: l2 :: l3 :: l4 :: .unset :: L) (.int x :: S) k n H Q ↔ W (pj lw) 44 40 (l0 :: l1 :: l2 :: l3 :: l4 :: .val (.int x) :: L) S k n H Q := W_ist (rfl : (pj lw).1 44 38 = some (.istore 5, 2, 0)) rfl rfl
theorem w44_40 {x : Int32} {l0 l1 l2 l3 l4 : Slot} : W (pj lw) 44 40 (l0 :: l1 :: l2 :: l3 :: l4 :: .val (.int x) :: L) S k n H Q ↔ W (pj lw) 44 42 (l0 :: l1 :: l2 :: l3 :: l4 :: .val (.int x) :: L) (.int x :: S) k n H Q := W_s (rfl : (pj lw).1 44 40 = some (.iload 5, 2, 0)) rfl rfl rfl
theorem w44_42 {x : Nat} : W (pj lw) 44 42 (.val (.ref x) :: L) S k n H Q ↔ W (pj lw) 44 43 (.val (.ref x) :: L) (.ref x :: S) k n H Q := W_s (rfl : (pj lw).1 44 42 = some (.aload_n 0, 1, 0)) rfl rfl rfl
theorem w44_43 {a : Nat} : W (pj lw) 44 43 L (.ref a :: S) k n H Q ↔ (isO H a = true ∧ W (pj lw) 44 46 L (fld H a 11 :: S) k n H Q) := W_getf (rfl : (pj lw).1 44 43 = some (.getfield 84, 3, 11))
theorem w44_46 {x y : Int32} : W (pj lw) 44 46 L (.int y :: .int x :: S) k n H Q ↔ (if x < y then W (pj lw) 44 49 L S k n H Q else W (pj lw) 44 107 L S k n H Q) := W_icmp_ge (rfl : (pj lw).1 44 46 = some (.if_icmp .ge 61, 3, 0)) rfl
theorem w44_49 {x : Int32} {l0 l1 l2 l3 l4 : Slot} : W (pj lw) 44 49 (l0 :: l1 :: l2 :: l3 :: l4 :: .val (.int x) :: L) S k n H Q ↔ W (pj lw) 44 51 (l0 :: l1 :: l2 :: l3 :: l4 :: .val (.int x) :: L) (.int x :: S) k n H Q := W_s (rfl : (pj lw).1 44 49 = some (.iload 5, 2, 0)) rfl rfl rfl
theorem w44_51 : W (pj lw) 44 51 L S k n H Q ↔ W (pj lw) 44 53 L (.int 6 :: S) k n H Q := W_s (rfl : (pj lw).1 44 51 = some (.bipush 6, 2, 0)) rfl rfl rfl
theorem w44_53 {x y : Int32} : W (pj lw) 44 53 L (.int y :: .int x :: S) k n H Q ↔ (if x < y then W (pj lw) 44 56 L S k n H Q else W (pj lw) 44 107 L S k n H Q) := W_icmp_ge (rfl : (pj lw).1 44 53 = some (.if_icmp .ge 54, 3, 0)) rfl
theorem w44_56 {x : Int32} {l0 l1 l2 l3 l4 : Slot} : W (pj lw) 44 56 (l0 :: l1 :: l2 :: l3 :: l4 :: .val (.int x) :: L) S k n H Q ↔ W (pj lw) 44 58 (l0 :: l1 :: l2 :: l3 :: l4 :: .val (.int x) :: L) (.int x :: S) k n H Q := W_s (rfl : (pj lw).1 44 56 = some (.iload 5, 2, 0)) rfl rfl rfl
theorem w44_58 {x : Int32} {l0 l1 : Slot} : W (pj lw) 44 58 (l0 :: l1 :: .val (.int x) :: L) S k n H Q ↔ W (pj lw) 44 59 (l0 :: l1 :: .val (.int x) :: L) (.int x :: S) k n H Q := W_s (rfl : (pj lw).1 44 58 = some (.iload_n 2, 1, 0)) rfl rfl rfl
theorem w44_59 {x y : Int32} : W (pj lw) 44 59 L (.int y :: .int x :: S) k n H Q ↔ (if x = y then W (pj lw) 44 101 L S k n H Q else W (pj lw) 44 62 L S k n H Q) := W_icmp_eq (rfl : (pj lw).1 44 59 = some (.if_icmp .eq 42, 3, 0)) rfl
theorem w44_62 {x : Int32} {l0 l1 l2 l3 : Slot} : W (pj lw) 44 62 (l0 :: l1 :: l2 :: l3 :: .val (.int x) :: L) S k n H Q ↔ W (pj lw) 44 64 (l0 :: l1 :: l2 :: l3 :: .val (.int x) :: L) (.int x :: S) k n H Q := W_s (rfl : (pj lw).1 44 62 = some (.iload 4, 2, 0)) rfl rfl rfl
theorem w44_64 : W (pj lw) 44 64 L S k n H Q ↔ W (pj lw) 44 66 L (.int 6 :: S) k n H Q := W_s (rfl : (pj lw).1 44 64 = some (.bipush 6, 2, 0)) rfl rfl rfl
theorem w44_66 {x y : Int32} : W (pj lw) 44 66 L (.int y :: .int x :: S) k n H Q ↔ (if x < y then W (pj lw) 44 69 L S k n H Q else W (pj lw) 44 101 L S k n H Q) := W_icmp_ge (rfl : (pj lw).1 44 66 = some (.if_icmp .ge 35, 3, 0)) rfl
theorem w44_69 {x : Nat} : W (pj lw) 44 69 (.val (.ref x) :: L) S k n H Q ↔ W (pj lw) 44 70 (.val (.ref x) :: L) (.ref x :: S) k n H Q := W_s (rfl : (pj lw).1 44 69 = some (.aload_n 0, 1, 0)) rfl rfl rfl
theorem w44_70 {a : Nat} : W (pj lw) 44 70 L (.ref a :: S) k n H Q ↔ (isO H a = true ∧ W (pj lw) 44 73 L (fld H a 22 :: S) k n H Q) := W_getf (rfl : (pj lw).1 44 70 = some (.getfield 44, 3, 22))
theorem w44_73 {x : Int32} {l0 l1 l2 : Slot} : W (pj lw) 44 73 (l0 :: l1 :: l2 :: .val (.int x) :: L) S k n H Q ↔ W (pj lw) 44 74 (l0 :: l1 :: l2 :: .val (.int x) :: L) (.int x :: S) k n H Q := W_s (rfl : (pj lw).1 44 73 = some (.iload_n 3, 1, 0)) rfl rfl rfl
theorem w44_74 : W (pj lw) 44 74 L S k n H Q ↔ W (pj lw) 44 76 L (.int 6 :: S) k n H Q := W_s (rfl : (pj lw).1 44 74 = some (.bipush 6, 2, 0)) rfl rfl rfl
theorem w44_76 {x y : Int32} : W (pj lw) 44 76 L (.int y :: .int x :: S) k n H Q ↔ W (pj lw) 44 77 L (.int (x * y) :: S) k n H Q := W_s (rfl : (pj lw).1 44 76 = some (.imul, 1, 0)) rfl rfl rfl
theorem w44_77 {x : Int32} {l0 l1 l2 l3 : Slot} : W (pj lw) 44 77 (l0 :: l1 :: l2 :: l3 :: .val (.int x) :: L) S k n H Q ↔ W (pj lw) 44 79 (l0 :: l1 :: l2 :: l3 :: .val (.int x) :: L) (.int x :: S) k n H Q := W_s (rfl : (pj lw).1 44 77 = some (.iload 4, 2, 0)) rfl rfl rfl
theorem w44_79 {x y : Int32} : W (pj lw) 44 79 L (.int y :: .int x :: S) k n H Q ↔ W (pj lw) 44 80 L (.int (x + y) :: S) k n H Q := W_s (rfl : (pj lw).1 44 79 = some (.iadd, 1, 0)) rfl rfl rfl
theorem w44_80 {x : Nat} : W (pj lw) 44 80 (.val (.ref x) :: L) S k n H Q ↔ W (pj lw) 44 81 (.val (.ref x) :: L) (.ref x :: S) k n H Q := W_s (rfl : (pj lw).1 44 80 = some (.aload_n 0, 1, 0)) rfl rfl rfl
theorem w44_81 {a : Nat} : W (pj lw) 44 81 L (.ref a :: S) k n H Q ↔ (isO H a = true ∧ W (pj lw) 44 84 L (fld H a 21 :: S) k n H Q) := W_getf (rfl : (pj lw).1 44 81 = some (.getfield 41, 3, 21))
theorem w44_84 {x : Nat} : W (pj lw) 44 84 (.val (.ref x) :: L) S k n H Q ↔ W (pj lw) 44 85 (.val (.ref x) :: L) (.ref x :: S) k n H Q := W_s (rfl : (pj lw).1 44 84 = some (.aload_n 0, 1, 0)) rfl rfl rfl
theorem w44_85 {a : Nat} : W (pj lw) 44 85 L (.ref a :: S) k n H Q ↔ (isO H a = true ∧ W (pj lw) 44 88 L (fld H a 24 :: S) k n H Q) := W_getf (rfl : (pj lw).1 44 85 = some (.getfield 50, 3, 24))
theorem w44_88 {x : Int32} {l0 l1 l2 : Slot} : W (pj lw) 44 88 (l0 :: l1 :: l2 :: .val (.int x) :: L) S k n H Q ↔ W (pj lw) 44 89 (l0 :: l1 :: l2 :: .val (.int x) :: L) (.int x :: S) k n H Q := W_s (rfl : (pj lw).1 44 88 = some (.iload_n 3, 1, 0)) rfl rfl rfl
theorem w44_89 {i : Int32} {a : Nat} : W (pj lw) 44 89 L (.int i :: .ref a :: S) k n H Q ↔ (inA H a .int i = true ∧ W (pj lw) 44 90 L (elt H a i :: S) k n H Q) := W_iaload (rfl : (pj lw).1 44 89 = some (.iaload, 1, 0))
theorem w44_90 : W (pj lw) 44 90 L S k n H Q ↔ W (pj lw) 44 92 L (.int 6 :: S) k n H Q := W_s (rfl : (pj lw).1 44 90 = some (.bipush 6, 2, 0)) rfl rfl rfl
theorem w44_92 {x y : Int32} : W (pj lw) 44 92 L (.int y :: .int x :: S) k n H Q ↔ W (pj lw) 44 93 L (.int (x * y) :: S) k n H Q := W_s (rfl : (pj lw).1 44 92 = some (.imul, 1, 0)) rfl rfl rfl
theorem w44_93 {x : Int32} {l0 l1 l2 l3 l4 : Slot} : W (pj lw) 44 93 (l0 :: l1 :: l2 :: l3 :: l4 :: .val (.int x) :: L) S k n H Q ↔ W (pj lw) 44 95 (l0 :: l1 :: l2 :: l3 :: l4 :: .val (.int x) :: L) (.int x :: S) k n H Q := W_s (rfl : (pj lw).1 44 93 = some (.iload 5, 2, 0)) rfl rfl rfl
theorem w44_95 {x y : Int32} : W (pj lw) 44 95 L (.int y :: .int x :: S) k n H Q ↔ W (pj lw) 44 96 L (.int (x + y) :: S) k n H Q := W_s (rfl : (pj lw).1 44 95 = some (.iadd, 1, 0)) rfl rfl rfl
theorem w44_96 {i : Int32} {a : Nat} : W (pj lw) 44 96 L (.int i :: .ref a :: S) k n H Q ↔ (inA H a .long i = true ∧ W (pj lw) 44 97 L (elt H a i :: S) k n H Q) := W_laload (rfl : (pj lw).1 44 96 = some (.laload, 1, 0))
theorem w44_97 {x : Int64} {i : Int32} {a : Nat} : W (pj lw) 44 97 L (.long x :: .int i :: .ref a :: S) k n H Q ↔ (inAw H a .long i = true ∧ W (pj lw) 44 98 L S k n (wr H a i.toNatClampNeg (.long x)) Q) := W_lastore (rfl : (pj lw).1 44 97 = some (.lastore, 1, 0))
theorem w44_98 {x : Int32} {l0 l1 l2 l3 : Slot} : W (pj lw) 44 98 (l0 :: l1 :: l2 :: l3 :: .val (.int x) :: L) S k n H Q ↔ W (pj lw) 44 101 (l0 :: l1 :: l2 :: l3 :: .val (.int (x + 1)) :: L) S k n H Q := W_s (rfl : (pj lw).1 44 98 = some (.iinc 4 1, 3, 0)) rfl rfl rfl
theorem w44_101 {x : Int32} {l0 l1 l2 l3 l4 : Slot} : W (pj lw) 44 101 (l0 :: l1 :: l2 :: l3 :: l4 :: .val (.int x) :: L) S k n H Q ↔ W (pj lw) 44 104 (l0 :: l1 :: l2 :: l3 :: l4 :: .val (.int (x + 1)) :: L) S k n H Q := W_s (rfl : (pj lw).1 44 101 = some (.iinc 5 1, 3, 0)) rfl rfl rfl
theorem w44_104 : W (pj lw) 44 104 L S k n H Q ↔ W (pj lw) 44 40 L S k n H Q := W_goto (rfl : (pj lw).1 44 104 = some (.goto (-64), 3, 0)) rfl
theorem w44_107 {x : Int32} {l0 l1 l2 : Slot} : W (pj lw) 44 107 (l0 :: l1 :: l2 :: .val (.int x) :: L) S k n H Q ↔ W (pj lw) 44 110 (l0 :: l1 :: l2 :: .val (.int (x + 1)) :: L) S k n H Q := W_s (rfl : (pj lw).1 44 107 = some (.iinc 3 1, 3, 0)) rfl rfl rfl
theorem w44_110 : W (pj lw) 44 110 L S k n H Q ↔ W (pj lw) 44 23 L S k n H Q := W_goto (rfl : (pj lw).1 44 110 = some (.goto (-87), 3, 0)) rfl
theorem w44_113 : W (pj lw) 44 113 L [] k n H Q ↔ Q none H := W_r (rfl : (pj lw).1 44 113 = some (.return_, 1, 0)) rfl
theorem c45 {x0 : Nat} : Cl (pj lw) 45 [.ref x0] H Q ↔ W (pj lw) 45 0 [.val (.ref x0), .unset, .unset, .unset, .unset, .unset, .unset, .unset] [] 0 0 H Q := cl_unf rfl
theorem w45_0 : W (pj lw) 45 0 L S k n H Q ↔ W (pj lw) 45 1 L (.long 0 :: S) k n H Q := W_s (rfl : (pj lw).1 45 0 = some (.lconst 0, 1, 0)) rfl rfl rfl
theorem w45_1uu {x : Int64} {l0 : Slot} : W (pj lw) 45 1 (l0 :: .unset :: .unset :: L) (.long x :: S) k n H Q ↔ W (pj lw) 45 2 (l0 :: .val (.long x) :: .second :: L) S k n H Q := W_lstn (rfl : (pj lw).1 45 1 = some (.lstore_n 1, 1, 0)) rfl rfl rfl rfl
theorem w45_2 : W (pj lw) 45 2 L S k n H Q ↔ W (pj lw) 45 3 L (.int 0 :: S) k n H Q := W_s (rfl : (pj lw).1 45 2 = some (.iconst 0, 1, 0)) rfl rfl rfl
theorem w45_3 {x : Int32} {l0 l1 l2 : Slot} : W (pj lw) 45 3 (l0 :: l1 :: l2 :: .unset :: L) (.int x :: S) k n H Q ↔ W (pj lw) 45 4 (l0 :: l1 :: l2 :: .val (.int x) :: L) S k n H Q := W_istn (rfl : (pj lw).1 45 3 = some (.istore_n 3, 1, 0)) rfl rfl
theorem w45_4 {x : Int32} {l0 l1 l2 : Slot} : W (pj lw) 45 4 (l0 :: l1 :: l2 :: .val (.int x) :: L) S k n H Q ↔ W (pj lw) 45 5 (l0 :: l1 :: l2 :: .val (.int x) :: L) (.int x :: S) k n H Q := W_s (rfl : (pj lw).1 45 4 = some (.iload_n 3, 1, 0)) rfl rfl rfl
theorem w45_5 {x : Nat} : W (pj lw) 45 5 (.val (.ref x) :: L) S k n H Q ↔ W (pj lw) 45 6 (.val (.ref x) :: L) (.ref x :: S) k n H Q := W_s (rfl : (pj lw).1 45 5 = some (.aload_n 0, 1, 0)) rfl rfl rfl
theorem w45_6 {a : Nat} : W (pj lw) 45 6 L (.ref a :: S) k n H Q ↔ (isO H a = true ∧ W (pj lw) 45 9 L (fld H a 11 :: S) k n H Q) := W_getf (rfl : (pj lw).1 45 6 = some (.getfield 84, 3, 11))
theorem w45_9 {x y : Int32} : W (pj lw) 45 9 L (.int y :: .int x :: S) k n H Q ↔ (if x < y then W (pj lw) 45 12 L S k n H Q else W (pj lw) 45 61 L S k n H Q) := W_icmp_ge (rfl : (pj lw).1 45 9 = some (.if_icmp .ge 52, 3, 0)) rfl
theorem w45_12 {x : Int32} {l0 l1 l2 : Slot} : W (pj lw) 45 12 (l0 :: l1 :: l2 :: .val (.int x) :: L) S k n H Q ↔ W (pj lw) 45 13 (l0 :: l1 :: l2 :: .val (.int x) :: L) (.int x :: S) k n H Q := W_s (rfl : (pj lw).1 45 12 = some (.iload_n 3, 1, 0)) rfl rfl rfl
theorem w45_13 : W (pj lw) 45 13 L S k n H Q ↔ W (pj lw) 45 15 L (.int 6 :: S) k n H Q := W_s (rfl : (pj lw).1 45 13 = some (.bipush 6, 2, 0)) rfl rfl rfl
theorem w45_15 {x y : Int32} : W (pj lw) 45 15 L (.int y :: .int x :: S) k n H Q ↔ (if x < y then W (pj lw) 45 18 L S k n H Q else W (pj lw) 45 61 L S k n H Q) := W_icmp_ge (rfl : (pj lw).1 45 15 = some (.if_icmp .ge 46, 3, 0)) rfl
theorem w45_18 {x : Nat} : W (pj lw) 45 18 (.val (.ref x) :: L) S k n H Q ↔ W (pj lw) 45 19 (.val (.ref x) :: L) (.ref x :: S) k n H Q := W_s (rfl : (pj lw).1 45 18 = some (.aload_n 0, 1, 0)) rfl rfl rfl
theorem w45_19 {a : Nat} : W (pj lw) 45 19 L (.ref a :: S) k n H Q ↔ (isO H a = true ∧ W (pj lw) 45 22 L (fld H a 25 :: S) k n H Q) := W_getf (rfl : (pj lw).1 45 19 = some (.getfield 53, 3, 25))
theorem w45_22 {x : Int32} {l0 l1 l2 : Slot} : W (pj lw) 45 22 (l0 :: l1 :: l2 :: .val (.int x) :: L) S k n H Q ↔ W (pj lw) 45 23 (l0 :: l1 :: l2 :: .val (.int x) :: L) (.int x :: S) k n H Q := W_s (rfl : (pj lw).1 45 22 = some (.iload_n 3, 1, 0)) rfl rfl rfl
theorem w45_23 {i : Int32} {a : Nat} : W (pj lw) 45 23 L (.int i :: .ref a :: S) k n H Q ↔ (inA H a .long i = true ∧ W (pj lw) 45 24 L (elt H a i :: S) k n H Q) := W_laload (rfl : (pj lw).1 45 23 = some (.laload, 1, 0))
theorem w45_24 : W (pj lw) 45 24 L S k n H Q ↔ W (pj lw) 45 25 L (.long 0 :: S) k n H Q := W_s (rfl : (pj lw).1 45 24 = some (.lconst 0, 1, 0)) rfl rfl rfl
theorem w45_25 {x y : Int64} : W (pj lw) 45 25 L (.long y :: .long x :: S) k n H Q ↔ W (pj lw) 45 26 L (.int (Jvm.Free.XT.cmpL x y) :: S) k n H Q := W_s (rfl : (pj lw).1 45 25 = some (.lcmp, 1, 0)) rfl rfl rfl
theorem w45_26 {x : Int32} : W (pj lw) 45 26 L (.int x :: S) k n H Q ↔ (if x < 0 then W (pj lw) 45 29 L S k n H Q else W (pj lw) 45 39 L S k n H Q) := W_if_ge (rfl : (pj lw).1 45 26 = some (.ifCond .ge 13, 3, 0)) rfl
theorem w45_29 {x : Nat} : W (pj lw) 45 29 (.val (.ref x) :: L) S k n H Q ↔ W (pj lw) 45 30 (.val (.ref x) :: L) (.ref x :: S) k n H Q := W_s (rfl : (pj lw).1 45 29 = some (.aload_n 0, 1, 0)) rfl rfl rfl
theorem w45_30 {a : Nat} : W (pj lw) 45 30 L (.ref a :: S) k n H Q ↔ (isO H a = true ∧ W (pj lw) 45 33 L (fld H a 25 :: S) k n H Q) := W_getf (rfl : (pj lw).1 45 30 = some (.getfield 53, 3, 25))
theorem w45_33 {x : Int32} {l0 l1 l2 : Slot} : W (pj lw) 45 33 (l0 :: l1 :: l2 :: .val (.int x) :: L) S k n H Q ↔ W (pj lw) 45 34 (l0 :: l1 :: l2 :: .val (.int x) :: L) (.int x :: S) k n H Q := W_s (rfl : (pj lw).1 45 33 = some (.iload_n 3, 1, 0)) rfl rfl rfl
theorem w45_34 {i : Int32} {a : Nat} : W (pj lw) 45 34 L (.int i :: .ref a :: S) k n H Q ↔ (inA H a .long i = true ∧ W (pj lw) 45 35 L (elt H a i :: S) k n H Q) := W_laload (rfl : (pj lw).1 45 34 = some (.laload, 1, 0))
theorem w45_35 {x : Int64} : W (pj lw) 45 35 L (.long x :: S) k n H Q ↔ W (pj lw) 45 36 L (.long (-x) :: S) k n H Q := W_s (rfl : (pj lw).1 45 35 = some (.lneg, 1, 0)) rfl rfl rfl
theorem w45_36 : W (pj lw) 45 36 L S k n H Q ↔ W (pj lw) 45 45 L S k n H Q := W_goto (rfl : (pj lw).1 45 36 = some (.goto 9, 3, 0)) rfl
theorem w45_39 {x : Nat} : W (pj lw) 45 39 (.val (.ref x) :: L) S k n H Q ↔ W (pj lw) 45 40 (.val (.ref x) :: L) (.ref x :: S) k n H Q := W_s (rfl : (pj lw).1 45 39 = some (.aload_n 0, 1, 0)) rfl rfl rfl
theorem w45_40 {a : Nat} : W (pj lw) 45 40 L (.ref a :: S) k n H Q ↔ (isO H a = true ∧ W (pj lw) 45 43 L (fld H a 25 :: S) k n H Q) := W_getf (rfl : (pj lw).1 45 40 = some (.getfield 53, 3, 25))
theorem w45_43 {x : Int32} {l0 l1 l2 : Slot} : W (pj lw) 45 43 (l0 :: l1 :: l2 :: .val (.int x) :: L) S k n H Q ↔ W (pj lw) 45 44 (l0 :: l1 :: l2 :: .val (.int x) :: L) (.int x :: S) k n H Q := W_s (rfl : (pj lw).1 45 43 = some (.iload_n 3, 1, 0)) rfl rfl rfl
theorem w45_44 {i : Int32} {a : Nat} : W (pj lw) 45 44 L (.int i :: .ref a :: S) k n H Q ↔ (inA H a .long i = true ∧ W (pj lw) 45 45 L (elt H a i :: S) k n H Q) := W_laload (rfl : (pj lw).1 45 44 = some (.laload, 1, 0))
theorem w45_45j {x y : Int64} {l0 l1 l2 l3 : Slot} : W (pj lw) 45 45 (l0 :: l1 :: l2 :: l3 :: .val (.long y) :: .second :: L) (.long x :: S) k n H Q ↔ W (pj lw) 45 47 (l0 :: l1 :: l2 :: l3 :: .val (.long x) :: .second :: L) S k n H Q := W_lst' (rfl : (pj lw).1 45 45 = some (.lstore 4, 2, 0)) rfl rfl
theorem w45_45uu {x : Int64} {l0 l1 l2 l3 : Slot} : W (pj lw) 45 45 (l0 :: l1 :: l2 :: l3 :: .unset :: .unset :: L) (.long x :: S) k n H Q ↔ W (pj lw) 45 47 (l0 :: l1 :: l2 :: l3 :: .val (.long x) :: .second :: L) S k n H Q := W_lst (rfl : (pj lw).1 45 45 = some (.lstore 4, 2, 0)) rfl rfl rfl rfl
theorem w45_47 {x : Nat} : W (pj lw) 45 47 (.val (.ref x) :: L) S k n H Q ↔ W (pj lw) 45 48 (.val (.ref x) :: L) (.ref x :: S) k n H Q := W_s (rfl : (pj lw).1 45 47 = some (.aload_n 0, 1, 0)) rfl rfl rfl
theorem w45_48 {x : Int64} {l0 : Slot} : W (pj lw) 45 48 (l0 :: .val (.long x) :: L) S k n H Q ↔ W (pj lw) 45 49 (l0 :: .val (.long x) :: L) (.long x :: S) k n H Q := W_s (rfl : (pj lw).1 45 48 = some (.lload_n 1, 1, 0)) rfl rfl rfl
theorem w45_49 {x : Int64} {l0 l1 l2 l3 : Slot} : W (pj lw) 45 49 (l0 :: l1 :: l2 :: l3 :: .val (.long x) :: L) S k n H Q ↔ W (pj lw) 45 51 (l0 :: l1 :: l2 :: l3 :: .val (.long x) :: L) (.long x :: S) k n H Q := W_s (rfl : (pj lw).1 45 49 = some (.lload 4, 2, 0)) rfl rfl rfl
theorem w45_51 {a : Nat} {x0 : Int64} {x1 : Int64} : W (pj lw) 45 51 L (.long x1 :: .long x0 :: .ref a :: S) k n H Q ↔ ((isO H a = true ∧ cs S + (12 + 11) + 0 ≤ 23) ∧ Cl (pj lw) 46 [.ref a, .long x0, .long x1] H (fun v H => W (pj lw) 45 54 L (v.toList ++ S) k n H Q)) := W_inst (as := [.long x0, .long x1]) (rfl : (pj lw).1 45 51 = some (.invokevirtual 198, 3, 46)) rfl rfl rfl (Nat.le_of_ble_eq_true rfl) (Nat.le_of_ble_eq_true rfl) ⟨rfl, rfl⟩
theorem w45_54j {x y : Int64} {l0 : Slot} : W (pj lw) 45 54 (l0 :: .val (.long y) :: .second :: L) (.long x :: S) k n H Q ↔ W (pj lw) 45 55 (l0 :: .val (.long x) :: .second :: L) S k n H Q := W_lstn' (rfl : (pj lw).1 45 54 = some (.lstore_n 1, 1, 0)) rfl rfl
theorem w45_55 {x : Int32} {l0 l1 l2 : Slot} : W (pj lw) 45 55 (l0 :: l1 :: l2 :: .val (.int x) :: L) S k n H Q ↔ W (pj lw) 45 58 (l0 :: l1 :: l2 :: .val (.int (x + 1)) :: L) S k n H Q := W_s (rfl : (pj lw).1 45 55 = some (.iinc 3 1, 3, 0)) rfl rfl rfl
theorem w45_58 : W (pj lw) 45 58 L S k n H Q ↔ W (pj lw) 45 4 L S k n H Q := W_goto (rfl : (pj lw).1 45 58 = some (.goto (-54), 3, 0)) rfl
theorem w45_61 {x : Int64} {l0 : Slot} : W (pj lw) 45 61 (l0 :: .val (.long x) :: L) S k n H Q ↔ W (pj lw) 45 62 (l0 :: .val (.long x) :: L) (.long x :: S) k n H Q := W_s (rfl : (pj lw).1 45 61 = some (.lload_n 1, 1, 0)) rfl rfl rfl
theorem w45_62 : W (pj lw) 45 62 L S k n H Q ↔ W (pj lw) 45 63 L (.long 0 :: S) k n H Q := W_s (rfl : (pj lw).1 45 62 = some (.lconst 0, 1, 0)) rfl rfl rfl
theorem w45_63 {x y : Int64} : W (pj lw) 45 63 L (.long y :: .long x :: S) k n H Q ↔ W (pj lw) 45 64 L (.int (Jvm.Free.XT.cmpL x y) :: S) k n H Q := W_s (rfl : (pj lw).1 45 63 = some (.lcmp, 1, 0)) rfl rfl rfl
theorem w45_64 {x : Int32} : W (pj lw) 45 64 L (.int x :: S) k n H Q ↔ (if 0 < x then W (pj lw) 45 69 L S k n H Q else W (pj lw) 45 67 L S k n H Q) := W_if_gt (rfl : (pj lw).1 45 64 = some (.ifCond .gt 5, 3, 0)) rfl
theorem w45_67 : W (pj lw) 45 67 L S k n H Q ↔ W (pj lw) 45 68 L (.int 0 :: S) k n H Q := W_s (rfl : (pj lw).1 45 67 = some (.iconst 0, 1, 0)) rfl rfl rfl
theorem w45_68 {x : Int32} : W (pj lw) 45 68 L (.int x :: S) k n H Q ↔ ((x = 0 ∨ x = 1) ∧ Q (some (.int x)) H) := W_rz (rfl : (pj lw).1 45 68 = some (.ireturn, 1, 0)) rfl
theorem w45_69 {x : Nat} : W (pj lw) 45 69 (.val (.ref x) :: L) S k n H Q ↔ W (pj lw) 45 70 (.val (.ref x) :: L) (.ref x :: S) k n H Q := W_s (rfl : (pj lw).1 45 69 = some (.aload_n 0, 1, 0)) rfl rfl rfl
theorem w45_70 {a : Nat} : W (pj lw) 45 70 L (.ref a :: S) k n H Q ↔ (isO H a = true ∧ W (pj lw) 45 73 L (fld H a 25 :: S) k n H Q) := W_getf (rfl : (pj lw).1 45 70 = some (.getfield 53, 3, 25))
theorem w45_73 : W (pj lw) 45 73 L S k n H Q ↔ W (pj lw) 45 74 L (.int 0 :: S) k n H Q := W_s (rfl : (pj lw).1 45 73 = some (.iconst 0, 1, 0)) rfl rfl rfl
theorem w45_74 {i : Int32} {a : Nat} : W (pj lw) 45 74 L (.int i :: .ref a :: S) k n H Q ↔ (inA H a .long i = true ∧ W (pj lw) 45 75 L (elt H a i :: S) k n H Q) := W_laload (rfl : (pj lw).1 45 74 = some (.laload, 1, 0))
theorem w45_75 : W (pj lw) 45 75 L S k n H Q ↔ W (pj lw) 45 76 L (.long 0 :: S) k n H Q := W_s (rfl : (pj lw).1 45 75 = some (.lconst 0, 1, 0)) rfl rfl rfl
theorem w45_76 {x y : Int64} : W (pj lw) 45 76 L (.long y :: .long x :: S) k n H Q ↔ W (pj lw) 45 77 L (.int (Jvm.Free.XT.cmpL x y) :: S) k n H Q := W_s (rfl : (pj lw).1 45 76 = some (.lcmp, 1, 0)) rfl rfl rfl
theorem w45_77 {x : Int32} : W (pj lw) 45 77 L (.int x :: S) k n H Q ↔ (if x < 0 then W (pj lw) 45 80 L S k n H Q else W (pj lw) 45 86 L S k n H Q) := W_if_ge (rfl : (pj lw).1 45 77 = some (.ifCond .ge 9, 3, 0)) rfl
theorem w45_80 : W (pj lw) 45 80 L S k n H Q ↔ W (pj lw) 45 83 L (.long (-1) :: S) k n H Q := W_s (rfl : (pj lw).1 45 80 = some (.ldc2_w 202, 3, (-1))) rfl rfl rfl
theorem w45_83 : W (pj lw) 45 83 L S k n H Q ↔ W (pj lw) 45 87 L S k n H Q := W_goto (rfl : (pj lw).1 45 83 = some (.goto 4, 3, 0)) rfl
theorem w45_86 : W (pj lw) 45 86 L S k n H Q ↔ W (pj lw) 45 87 L (.long 1 :: S) k n H Q := W_s (rfl : (pj lw).1 45 86 = some (.lconst 1, 1, 0)) rfl rfl rfl
theorem w45_87iu {y : Int32} {x : Int64} {l0 l1 l2 : Slot} : W (pj lw) 45 87 (l0 :: l1 :: l2 :: .val (.int y) :: .unset :: L) (.long x :: S) k n H Q ↔ W (pj lw) 45 88 (l0 :: l1 :: l2 :: .val (.long x) :: .second :: L) S k n H Q := W_lstn (rfl : (pj lw).1 45 87 = some (.lstore_n 3, 1, 0)) rfl rfl rfl rfl
theorem w45_88 : W (pj lw) 45 88 L S k n H Q ↔ W (pj lw) 45 89 L (.int 0 :: S) k n H Q := W_s (rfl : (pj lw).1 45 88 = some (.iconst 0, 1, 0)) rfl rfl rfl
theorem w45_89 {x : Int32} {l0 l1 l2 l3 l4 : Slot} : W (pj lw) 45 89 (l0 :: l1 :: l2 :: l3 :: l4 :: .unset :: L) (.int x :: S) k n H Q ↔ W (pj lw) 45 91 (l0 :: l1 :: l2 :: l3 :: l4 :: .val (.int x) :: L) S k n H Q := W_ist (rfl : (pj lw).1 45 89 = some (.istore 5, 2, 0)) rfl rfl
theorem w45_91 {x : Int32} {l0 l1 l2 l3 l4 : Slot} : W (pj lw) 45 91 (l0 :: l1 :: l2 :: l3 :: l4 :: .val (.int x) :: L) S k n H Q ↔ W (pj lw) 45 93 (l0 :: l1 :: l2 :: l3 :: l4 :: .val (.int x) :: L) (.int x :: S) k n H Q := W_s (rfl : (pj lw).1 45 91 = some (.iload 5, 2, 0)) rfl rfl rfl
theorem w45_93 {x : Nat} : W (pj lw) 45 93 (.val (.ref x) :: L) S k n H Q ↔ W (pj lw) 45 94 (.val (.ref x) :: L) (.ref x :: S) k n H Q := W_s (rfl : (pj lw).1 45 93 = some (.aload_n 0, 1, 0)) rfl rfl rfl
theorem w45_94 {a : Nat} : W (pj lw) 45 94 L (.ref a :: S) k n H Q ↔ (isO H a = true ∧ W (pj lw) 45 97 L (fld H a 11 :: S) k n H Q) := W_getf (rfl : (pj lw).1 45 94 = some (.getfield 84, 3, 11))
theorem w45_97 {x y : Int32} : W (pj lw) 45 97 L (.int y :: .int x :: S) k n H Q ↔ (if x < y then W (pj lw) 45 100 L S k n H Q else W (pj lw) 45 144 L S k n H Q) := W_icmp_ge (rfl : (pj lw).1 45 97 = some (.if_icmp .ge 47, 3, 0)) rfl
theorem w45_100 {x : Int32} {l0 l1 l2 l3 l4 : Slot} : W (pj lw) 45 100 (l0 :: l1 :: l2 :: l3 :: l4 :: .val (.int x) :: L) S k n H Q ↔ W (pj lw) 45 102 (l0 :: l1 :: l2 :: l3 :: l4 :: .val (.int x) :: L) (.int x :: S) k n H Q := W_s (rfl : (pj lw).1 45 100 = some (.iload 5, 2, 0)) rfl rfl rfl
theorem w45_102 : W (pj lw) 45 102 L S k n H Q ↔ W (pj lw) 45 104 L (.int 6 :: S) k n H Q := W_s (rfl : (pj lw).1 45 102 = some (.bipush 6, 2, 0)) rfl rfl rfl
theorem w45_104 {x y : Int32} : W (pj lw) 45 104 L (.int y :: .int x :: S) k n H Q ↔ (if x < y then W (pj lw) 45 107 L S k n H Q else W (pj lw) 45 144 L S k n H Q) := W_icmp_ge (rfl : (pj lw).1 45 104 = some (.if_icmp .ge 40, 3, 0)) rfl
theorem w45_107 {x : Nat} : W (pj lw) 45 107 (.val (.ref x) :: L) S k n H Q ↔ W (pj lw) 45 108 (.val (.ref x) :: L) (.ref x :: S) k n H Q := W_s (rfl : (pj lw).1 45 107 = some (.aload_n 0, 1, 0)) rfl rfl rfl
theorem w45_108 {a : Nat} : W (pj lw) 45 108 L (.ref a :: S) k n H Q ↔ (isO H a = true ∧ W (pj lw) 45 111 L (fld H a 25 :: S) k n H Q) := W_getf (rfl : (pj lw).1 45 108 = some (.getfield 53, 3, 25))
theorem w45_111 {x : Int32} {l0 l1 l2 l3 l4 : Slot} : W (pj lw) 45 111 (l0 :: l1 :: l2 :: l3 :: l4 :: .val (.int x) :: L) S k n H Q ↔ W (pj lw) 45 113 (l0 :: l1 :: l2 :: l3 :: l4 :: .val (.int x) :: L) (.int x :: S) k n H Q := W_s (rfl : (pj lw).1 45 111 = some (.iload 5, 2, 0)) rfl rfl rfl
theorem w45_113 {i : Int32} {a : Nat} : W (pj lw) 45 113 L (.int i :: .ref a :: S) k n H Q ↔ (inA H a .long i = true ∧ W (pj lw) 45 114 L (elt H a i :: S) k n H Q) := W_laload (rfl : (pj lw).1 45 113 = some (.laload, 1, 0))
theorem w45_114 {x : Int64} {l0 l1 l2 : Slot} : W (pj lw) 45 114 (l0 :: l1 :: l2 :: .val (.long x) :: L) S k n H Q ↔ W (pj lw) 45 115 (l0 :: l1 :: l2 :: .val (.long x) :: L) (.long x :: S) k n H Q := W_s (rfl : (pj lw).1 45 114 = some (.lload_n 3, 1, 0)) rfl rfl rfl
theorem w45_115 {x y : Int64} : W (pj lw) 45 115 L (.long y :: .long x :: S) k n H Q ↔ W (pj lw) 45 116 L (.long (x * y) :: S) k n H Q := W_s (rfl : (pj lw).1 45 115 = some (.lmul, 1, 0)) rfl rfl rfl
theorem w45_116j {x y : Int64} {l0 l1 l2 l3 l4 l5 : Slot} : W (pj lw) 45 116 (l0 :: l1 :: l2 :: l3 :: l4 :: l5 :: .val (.long y) :: .second :: L) (.long x :: S) k n H Q ↔ W (pj lw) 45 118 (l0 :: l1 :: l2 :: l3 :: l4 :: l5 :: .val (.long x) :: .second :: L) S k n H Q := W_lst' (rfl : (pj lw).1 45 116 = some (.lstore 6, 2, 0)) rfl rfl
theorem w45_116uu {x : Int64} {l0 l1 l2 l3 l4 l5 : Slot} : W (pj lw) 45 116 (l0 :: l1 :: l2 :: l3 :: l4 :: l5 :: .unset :: .unset :: L) (.long x :: S) k n H Q ↔ W (pj lw) 45 118 (l0 :: l1 :: l2 :: l3 :: l4 :: l5 :: .val (.long x) :: .second :: L) S k n H Q := W_lst (rfl : (pj lw).1 45 116 = some (.lstore 6, 2, 0)) rfl rfl rfl rfl
theorem w45_118 {x : Int64} {l0 l1 l2 l3 l4 l5 : Slot} : W (pj lw) 45 118 (l0 :: l1 :: l2 :: l3 :: l4 :: l5 :: .val (.long x) :: L) S k n H Q ↔ W (pj lw) 45 120 (l0 :: l1 :: l2 :: l3 :: l4 :: l5 :: .val (.long x) :: L) (.long x :: S) k n H Q := W_s (rfl : (pj lw).1 45 118 = some (.lload 6, 2, 0)) rfl rfl rfl
theorem w45_120 : W (pj lw) 45 120 L S k n H Q ↔ W (pj lw) 45 121 L (.long 0 :: S) k n H Q := W_s (rfl : (pj lw).1 45 120 = some (.lconst 0, 1, 0)) rfl rfl rfl
theorem w45_121 {x y : Int64} : W (pj lw) 45 121 L (.long y :: .long x :: S) k n H Q ↔ W (pj lw) 45 122 L (.int (Jvm.Free.XT.cmpL x y) :: S) k n H Q := W_s (rfl : (pj lw).1 45 121 = some (.lcmp, 1, 0)) rfl rfl rfl
theorem w45_122 {x : Int32} : W (pj lw) 45 122 L (.int x :: S) k n H Q ↔ (if 0 < x then W (pj lw) 45 127 L S k n H Q else W (pj lw) 45 125 L S k n H Q) := W_if_gt (rfl : (pj lw).1 45 122 = some (.ifCond .gt 5, 3, 0)) rfl
theorem w45_125 : W (pj lw) 45 125 L S k n H Q ↔ W (pj lw) 45 126 L (.int 0 :: S) k n H Q := W_s (rfl : (pj lw).1 45 125 = some (.iconst 0, 1, 0)) rfl rfl rfl
theorem w45_126 {x : Int32} : W (pj lw) 45 126 L (.int x :: S) k n H Q ↔ ((x = 0 ∨ x = 1) ∧ Q (some (.int x)) H) := W_rz (rfl : (pj lw).1 45 126 = some (.ireturn, 1, 0)) rfl
theorem w45_127 {x : Nat} : W (pj lw) 45 127 (.val (.ref x) :: L) S k n H Q ↔ W (pj lw) 45 128 (.val (.ref x) :: L) (.ref x :: S) k n H Q := W_s (rfl : (pj lw).1 45 127 = some (.aload_n 0, 1, 0)) rfl rfl rfl
theorem w45_128 {a : Nat} : W (pj lw) 45 128 L (.ref a :: S) k n H Q ↔ (isO H a = true ∧ W (pj lw) 45 131 L (fld H a 17 :: S) k n H Q) := W_getf (rfl : (pj lw).1 45 128 = some (.getfield 28, 3, 17))
theorem w45_131 {x : Int32} {l0 l1 l2 l3 l4 : Slot} : W (pj lw) 45 131 (l0 :: l1 :: l2 :: l3 :: l4 :: .val (.int x) :: L) S k n H Q ↔ W (pj lw) 45 133 (l0 :: l1 :: l2 :: l3 :: l4 :: .val (.int x) :: L) (.int x :: S) k n H Q := W_s (rfl : (pj lw).1 45 131 = some (.iload 5, 2, 0)) rfl rfl rfl
theorem w45_133 {x : Int64} {l0 l1 l2 l3 l4 l5 : Slot} : W (pj lw) 45 133 (l0 :: l1 :: l2 :: l3 :: l4 :: l5 :: .val (.long x) :: L) S k n H Q ↔ W (pj lw) 45 135 (l0 :: l1 :: l2 :: l3 :: l4 :: l5 :: .val (.long x) :: L) (.long x :: S) k n H Q := W_s (rfl : (pj lw).1 45 133 = some (.lload 6, 2, 0)) rfl rfl rfl
theorem w45_135 {x : Int64} {l0 : Slot} : W (pj lw) 45 135 (l0 :: .val (.long x) :: L) S k n H Q ↔ W (pj lw) 45 136 (l0 :: .val (.long x) :: L) (.long x :: S) k n H Q := W_s (rfl : (pj lw).1 45 135 = some (.lload_n 1, 1, 0)) rfl rfl rfl
theorem w45_136 {x y : Int64} : W (pj lw) 45 136 L (.long y :: .long x :: S) k n H Q ↔ (¬ y = 0 ∧ W (pj lw) 45 137 L (.long (x / y) :: S) k n H Q) := W_ldiv (rfl : (pj lw).1 45 136 = some (.ldiv, 1, 0))
theorem w45_137 {x : Int64} {i : Int32} {a : Nat} : W (pj lw) 45 137 L (.long x :: .int i :: .ref a :: S) k n H Q ↔ (inAw H a .long i = true ∧ W (pj lw) 45 138 L S k n (wr H a i.toNatClampNeg (.long x)) Q) := W_lastore (rfl : (pj lw).1 45 137 = some (.lastore, 1, 0))
theorem w45_138 {x : Int32} {l0 l1 l2 l3 l4 : Slot} : W (pj lw) 45 138 (l0 :: l1 :: l2 :: l3 :: l4 :: .val (.int x) :: L) S k n H Q ↔ W (pj lw) 45 141 (l0 :: l1 :: l2 :: l3 :: l4 :: .val (.int (x + 1)) :: L) S k n H Q := W_s (rfl : (pj lw).1 45 138 = some (.iinc 5 1, 3, 0)) rfl rfl rfl
theorem w45_141 : W (pj lw) 45 141 L S k n H Q ↔ W (pj lw) 45 91 L S k n H Q := W_goto (rfl : (pj lw).1 45 141 = some (.goto (-50), 3, 0)) rfl
theorem w45_144 : W (pj lw) 45 144 L S k n H Q ↔ W (pj lw) 45 145 L (.int 1 :: S) k n H Q := W_s (rfl : (pj lw).1 45 144 = some (.iconst 1, 1, 0)) rfl rfl rfl
theorem w45_145 {x : Int32} : W (pj lw) 45 145 L (.int x :: S) k n H Q ↔ ((x = 0 ∨ x = 1) ∧ Q (some (.int x)) H) := W_rz (rfl : (pj lw).1 45 145 = some (.ireturn, 1, 0)) rfl
theorem c46 {x0 : Nat} {x1 : Int64} {x2 : Int64} : Cl (pj lw) 46 [.ref x0, .long x1, .long x2] H Q ↔ W (pj lw) 46 0 [.val (.ref x0), .val (.long x1), .second, .val (.long x2), .second, .unset, .unset, .unset, .unset, .unset, .unset, .unset] [] 0 0 H Q := cl_unf rfl
theorem w46_0 {x : Int64} {l0 : Slot} : W (pj lw) 46 0 (l0 :: .val (.long x) :: L) S k n H Q ↔ W (pj lw) 46 1 (l0 :: .val (.long x) :: L) (.long x :: S) k n H Q := W_s (rfl : (pj lw).1 46 0 = some (.lload_n 1, 1, 0)) rfl rfl rfl
theorem w46_1uu {x : Int64} {l0 l1 l2 l3 l4 : Slot} : W (pj lw) 46 1 (l0 :: l1 :: l2 :: l3 :: l4 :: .unset :: .unset :: L) (.long x :: S) k n H Q ↔ W (pj lw) 46 3 (l0 :: l1 :: l2 :: l3 :: l4 :: .val (.long x) :: .second :: L) S k n H Q := W_lst (rfl : (pj lw).1 46 1 = some (.lstore 5, 2, 0)) rfl rfl rfl rfl
theorem w46_3 {x : Int64} {l0 l1 l2 : Slot} : W (pj lw) 46 3 (l0 :: l1 :: l2 :: .val (.long x) :: L) S k n H Q ↔ W (pj lw) 46 4 (l0 :: l1 :: l2 :: .val (.long x) :: L) (.long x :: S) k n H Q := W_s (rfl : (pj lw).1 46 3 = some (.lload_n 3, 1, 0)) rfl rfl rfl
theorem w46_4uu {x : Int64} {l0 l1 l2 l3 l4 l5 l6 : Slot} : W (pj lw) 46 4 (l0 :: l1 :: l2 :: l3 :: l4 :: l5 :: l6 :: .unset :: .unset :: L) (.long x :: S) k n H Q ↔ W (pj lw) 46 6 (l0 :: l1 :: l2 :: l3 :: l4 :: l5 :: l6 :: .val (.long x) :: .second :: L) S k n H Q := W_lst (rfl : (pj lw).1 46 4 = some (.lstore 7, 2, 0)) rfl rfl rfl rfl
theorem w46_6 : W (pj lw) 46 6 L S k n H Q ↔ W (pj lw) 46 7 L (.int 0 :: S) k n H Q := W_s (rfl : (pj lw).1 46 6 = some (.iconst 0, 1, 0)) rfl rfl rfl
theorem w46_7 {x : Int32} {l0 l1 l2 l3 l4 l5 l6 l7 l8 : Slot} : W (pj lw) 46 7 (l0 :: l1 :: l2 :: l3 :: l4 :: l5 :: l6 :: l7 :: l8 :: .unset :: L) (.int x :: S) k n H Q ↔ W (pj lw) 46 9 (l0 :: l1 :: l2 :: l3 :: l4 :: l5 :: l6 :: l7 :: l8 :: .val (.int x) :: L) S k n H Q := W_ist (rfl : (pj lw).1 46 7 = some (.istore 9, 2, 0)) rfl rfl
theorem w46_9 {x : Int32} {l0 l1 l2 l3 l4 l5 l6 l7 l8 : Slot} : W (pj lw) 46 9 (l0 :: l1 :: l2 :: l3 :: l4 :: l5 :: l6 :: l7 :: l8 :: .val (.int x) :: L) S k n H Q ↔ W (pj lw) 46 11 (l0 :: l1 :: l2 :: l3 :: l4 :: l5 :: l6 :: l7 :: l8 :: .val (.int x) :: L) (.int x :: S) k n H Q := W_s (rfl : (pj lw).1 46 9 = some (.iload 9, 2, 0)) rfl rfl rfl
theorem w46_11 : W (pj lw) 46 11 L S k n H Q ↔ W (pj lw) 46 14 L (.int 200 :: S) k n H Q := W_s (rfl : (pj lw).1 46 11 = some (.sipush 200, 3, 0)) rfl rfl rfl
theorem w46_14 {x y : Int32} : W (pj lw) 46 14 L (.int y :: .int x :: S) k n H Q ↔ (if x < y then W (pj lw) 46 17 L S k n H Q else W (pj lw) 46 45 L S k n H Q) := W_icmp_ge (rfl : (pj lw).1 46 14 = some (.if_icmp .ge 31, 3, 0)) rfl
theorem w46_17 {x : Int64} {l0 l1 l2 l3 l4 l5 l6 : Slot} : W (pj lw) 46 17 (l0 :: l1 :: l2 :: l3 :: l4 :: l5 :: l6 :: .val (.long x) :: L) S k n H Q ↔ W (pj lw) 46 19 (l0 :: l1 :: l2 :: l3 :: l4 :: l5 :: l6 :: .val (.long x) :: L) (.long x :: S) k n H Q := W_s (rfl : (pj lw).1 46 17 = some (.lload 7, 2, 0)) rfl rfl rfl
theorem w46_19 : W (pj lw) 46 19 L S k n H Q ↔ W (pj lw) 46 20 L (.long 0 :: S) k n H Q := W_s (rfl : (pj lw).1 46 19 = some (.lconst 0, 1, 0)) rfl rfl rfl
theorem w46_20 {x y : Int64} : W (pj lw) 46 20 L (.long y :: .long x :: S) k n H Q ↔ W (pj lw) 46 21 L (.int (Jvm.Free.XT.cmpL x y) :: S) k n H Q := W_s (rfl : (pj lw).1 46 20 = some (.lcmp, 1, 0)) rfl rfl rfl
theorem w46_21 {x : Int32} : W (pj lw) 46 21 L (.int x :: S) k n H Q ↔ (if x = 0 then W (pj lw) 46 45 L S k n H Q else W (pj lw) 46 24 L S k n H Q) := W_if_eq (rfl : (pj lw).1 46 21 = some (.ifCond .eq 24, 3, 0)) rfl
theorem w46_24 {x : Int64} {l0 l1 l2 l3 l4 : Slot} : W (pj lw) 46 24 (l0 :: l1 :: l2 :: l3 :: l4 :: .val (.long x) :: L) S k n H Q ↔ W (pj lw) 46 26 (l0 :: l1 :: l2 :: l3 :: l4 :: .val (.long x) :: L) (.long x :: S) k n H Q := W_s (rfl : (pj lw).1 46 24 = some (.lload 5, 2, 0)) rfl rfl rfl
theorem w46_26 {x : Int64} {l0 l1 l2 l3 l4 l5 l6 : Slot} : W (pj lw) 46 26 (l0 :: l1 :: l2 :: l3 :: l4 :: l5 :: l6 :: .val (.long x) :: L) S k n H Q ↔ W (pj lw) 46 28 (l0 :: l1 :: l2 :: l3 :: l4 :: l5 :: l6 :: .val (.long x) :: L) (.long x :: S) k n H Q := W_s (rfl : (pj lw).1 46 26 = some (.lload 7, 2, 0)) rfl rfl rfl
theorem w46_28 {x y : Int64} : W (pj lw) 46 28 L (.long y :: .long x :: S) k n H Q ↔ (¬ y = 0 ∧ W (pj lw) 46 29 L (.long (x % y) :: S) k n H Q) := W_lrem (rfl : (pj lw).1 46 28 = some (.lrem, 1, 0))
theorem w46_29j {x y : Int64} {l0 l1 l2 l3 l4 l5 l6 l7 l8 l9 : Slot} : W (pj lw) 46 29 (l0 :: l1 :: l2 :: l3 :: l4 :: l5 :: l6 :: l7 :: l8 :: l9 :: .val (.long y) :: .second :: L) (.long x :: S) k n H Q ↔ W (pj lw) 46 31 (l0 :: l1 :: l2 :: l3 :: l4 :: l5 :: l6 :: l7 :: l8 :: l9 :: .val (.long x) :: .second :: L) S k n H Q := W_lst' (rfl : (pj lw).1 46 29 = some (.lstore 10, 2, 0)) rfl rfl
theorem w46_29uu {x : Int64} {l0 l1 l2 l3 l4 l5 l6 l7 l8 l9 : Slot} : W (pj lw) 46 29 (l0 :: l1 :: l2 :: l3 :: l4 :: l5 :: l6 :: l7 :: l8 :: l9 :: .unset :: .unset :: L) (.long x :: S) k n H Q ↔ W (pj lw) 46 31 (l0 :: l1 :: l2 :: l3 :: l4 :: l5 :: l6 :: l7 :: l8 :: l9 :: .val (.long x) :: .second :: L) S k n H Q := W_lst (rfl : (pj lw).1 46 29 = some (.lstore 10, 2, 0)) rfl rfl rfl rfl
theorem w46_31 {x : Int64} {l0 l1 l2 l3 l4 l5 l6 : Slot} : W (pj lw) 46 31 (l0 :: l1 :: l2 :: l3 :: l4 :: l5 :: l6 :: .val (.long x) :: L) S k n H Q ↔ W (pj lw) 46 33 (l0 :: l1 :: l2 :: l3 :: l4 :: l5 :: l6 :: .val (.long x) :: L) (.long x :: S) k n H Q := W_s (rfl : (pj lw).1 46 31 = some (.lload 7, 2, 0)) rfl rfl rfl
theorem w46_33j {x y : Int64} {l0 l1 l2 l3 l4 : Slot} : W (pj lw) 46 33 (l0 :: l1 :: l2 :: l3 :: l4 :: .val (.long y) :: .second :: L) (.long x :: S) k n H Q ↔ W (pj lw) 46 35 (l0 :: l1 :: l2 :: l3 :: l4 :: .val (.long x) :: .second :: L) S k n H Q := W_lst' (rfl : (pj lw).1 46 33 = some (.lstore 5, 2, 0)) rfl rfl
theorem w46_35 {x : Int64} {l0 l1 l2 l3 l4 l5 l6 l7 l8 l9 : Slot} : W (pj lw) 46 35 (l0 :: l1 :: l2 :: l3 :: l4 :: l5 :: l6 :: l7 :: l8 :: l9 :: .val (.long x) :: L) S k n H Q ↔ W (pj lw) 46 37 (l0 :: l1 :: l2 :: l3 :: l4 :: l5 :: l6 :: l7 :: l8 :: l9 :: .val (.long x) :: L) (.long x :: S) k n H Q := W_s (rfl : (pj lw).1 46 35 = some (.lload 10, 2, 0)) rfl rfl rfl
theorem w46_37j {x y : Int64} {l0 l1 l2 l3 l4 l5 l6 : Slot} : W (pj lw) 46 37 (l0 :: l1 :: l2 :: l3 :: l4 :: l5 :: l6 :: .val (.long y) :: .second :: L) (.long x :: S) k n H Q ↔ W (pj lw) 46 39 (l0 :: l1 :: l2 :: l3 :: l4 :: l5 :: l6 :: .val (.long x) :: .second :: L) S k n H Q := W_lst' (rfl : (pj lw).1 46 37 = some (.lstore 7, 2, 0)) rfl rfl
theorem w46_39 {x : Int32} {l0 l1 l2 l3 l4 l5 l6 l7 l8 : Slot} : W (pj lw) 46 39 (l0 :: l1 :: l2 :: l3 :: l4 :: l5 :: l6 :: l7 :: l8 :: .val (.int x) :: L) S k n H Q ↔ W (pj lw) 46 42 (l0 :: l1 :: l2 :: l3 :: l4 :: l5 :: l6 :: l7 :: l8 :: .val (.int (x + 1)) :: L) S k n H Q := W_s (rfl : (pj lw).1 46 39 = some (.iinc 9 1, 3, 0)) rfl rfl rfl
theorem w46_42 : W (pj lw) 46 42 L S k n H Q ↔ W (pj lw) 46 9 L S k n H Q := W_goto (rfl : (pj lw).1 46 42 = some (.goto (-33), 3, 0)) rfl
theorem w46_45 {x : Int64} {l0 l1 l2 l3 l4 : Slot} : W (pj lw) 46 45 (l0 :: l1 :: l2 :: l3 :: l4 :: .val (.long x) :: L) S k n H Q ↔ W (pj lw) 46 47 (l0 :: l1 :: l2 :: l3 :: l4 :: .val (.long x) :: L) (.long x :: S) k n H Q := W_s (rfl : (pj lw).1 46 45 = some (.lload 5, 2, 0)) rfl rfl rfl
theorem w46_47 {x : Int64} : W (pj lw) 46 47 L (.long x :: S) k n H Q ↔ Q (some (.long x)) H := W_r (rfl : (pj lw).1 46 47 = some (.lreturn, 1, 0)) rfl
end Pc
section A
variable {lw : LW} {H : AH} {p j : Nat} {s : St} {Q : Option Value → AH → Prop} {a b c d : Int32} {h : Nat → Cel} {k n : Nat}
def ini0 (a b : Int32) : St := uI (uI (uI (uI z0 0 (cl 2 6 a)) 1 (cl 1 8 b)) 3 0) 10 0
set_option maxRecDepth 100000 in
theorem t1 : Cl (pj lw) 1 [.ref p, .int a, .int b] (put lay 0 (p + 1, h) p z0) Q ↔ Q none (ob (p + 16, h) p (ini0 a b)) := by
  rw [c1]
  rcases cl3 (lo := 2) (hi := 6) a (by decide) with ⟨h1, h2⟩ | ⟨h1, h2⟩ | ⟨h1, h2⟩ <;> rcases cl3 (lo := 1) (hi := 8) b (by decide) with ⟨h3, h4⟩ | ⟨h3, h4⟩ | ⟨h3, h4⟩ <;>
    simp +decide only [w1_0, w1_1, w1_4, w1_5, w1_7, w1_9, w1_12, w1_13, w1_14, w1_16, w1_19, w1_20, w1_22, w1_24, w1_27, w1_28, w1_30, w1_32, w1_35, w1_36, w1_38, w1_40, w1_43, w1_44, w1_46, w1_48, w1_51, w1_52, w1_54, w1_56, w1_59, w1_60, w1_62, w1_64, w1_67, w1_68, w1_70, w1_72, w1_75, w1_76, w1_78, w1_80, w1_83, w1_84, w1_86, w1_88, w1_91, w1_92, w1_94, w1_96, w1_99, w1_100, w1_102, w1_104, w1_107, w1_108, w1_110, w1_112, w1_115, w1_116, w1_118, w1_120, w1_123, w1_124, w1_125, w1_126, w1_127, w1_130, w1_131i, w1_132, w1_133, w1_135, w1_138, w1_140i, w1_141, w1_142, w1_144, w1_146, w1_147, w1_150, w1_151i, w1_153, w1_155, w1_157, w1_160, w1_162i, w1_164, w1_165, w1_166, w1_169, w1_170, w1_172, w1_175, w1_176, w1_177, w1_180, w1_181, w1_182, w1_185, zr_z0, zr_uI, zr_uJ, isO_put, isOw_put, put_fst, okv_int, okv_long, okv_ref, okv_bool, okv_byte, cat1_unset, cat1_int, cat1_ref, cs_nil, cs_int, cs_ref, cs_long, cmpL_lt, cmpL_gt, cmpL_eq, sI_uI, sI_uJ, sI_uA, sI_uB, sJ_uI, sJ_uJ, sJ_uA, sJ_uB, sA_uI, sA_uJ, sA_uA, sA_uB, sB_uI, sB_uJ, sB_uA, sB_uB, sI_fA, sJ_fA, sA_fA, sB_fA, sI_z0, sJ_z0, sA_z0, sB_z0, Option.toList_some, Option.toList_none, List.cons_append, List.nil_append, true_and, and_true, false_and, and_false, or_false, false_or, or_true, true_or, not_true_eq_false, not_false_eq_true, ↓reduceIte, Nat.reduceAdd, Nat.reduceLeDiff, Nat.reduceEqDiff, Nat.reduceSub, Int32.reduceAdd, Int32.reduceSub, Int32.reduceMul, Int32.reduceToNatClampNeg, Int64.reduceAdd, Int64.reduceSub, Int64.reduceMul, Int64.reduceLT, Int32.reduceLT, Int32.reduceToInt, Nat.add_zero, Nat.zero_add, Nat.le_refl, eq_self, implies_true, ne_eq, g0, s0, g1, s1, g2, g3, s3, g4, g5, g6, s6, g7, s7, g8, s8, g9, s9, g10, s10, g11, s11, g12, s12, g13, s13, g14, g15, g16, g17, g18, g19, g20, g21, g22, g23, g24, g25, g26, s26, g27, s27, ai1, aw1, ae1, as1, ai2, aw2, ae2, as2, ai3, aw3, ae3, as3, ai4, aw4, ae4, as4, ai5, aw5, ae5, as5, ai6, aw6, ae6, as6, ai7, aw7, ae7, as7, ai8, aw8, ae8, as8, ai9, aw9, ae9, as9, ai10, aw10, ae10, as10, ai11, aw11, ae11, as11, ai12, aw12, ae12, as12, ai13, aw13, ae13, as13, ai14, aw14, ae14, as14, ai15, aw15, ae15, as15, mk1, io1, mk2, io2, mk3, io3, mk4, io4, mk5, io5, mk6, io6, mk7, io7, mk8, io8, mk9, io9, mk10, io10, mk11, io11, mk12, io12, mk13, io13, mk14, io14, mk15, io15, h1, h2, h3, h4, ini0, cl]
end A

section B
variable {lw : LW} {H : AH} {p j : Nat} {s s' : St} {Q : Option Value → AH → Prop} {a b c d x y cx cy dp dq dr ds : Int32} {h : Nat → Cel} {k n : Nat}
def bz (x : Bool) : Int32 := if x = true then 1 else 0
def rgc (lo hi c : Int32) : Bool := decide (¬ c < lo ∧ ¬ hi < c)
theorem t20 : Cl (pj lw) 20 [.ref p, .int c] H Q ↔ Q (some (.int (bz (rgc 65 90 c)))) H := by
  rw [c20]; unfold rgc
  by_cases h1 : c < 65
  · simp +decide only [w20_0, w20_1, w20_3, w20_6, w20_7, w20_9, w20_12, w20_13, w20_16, w20_17, zr_z0, zr_uI, zr_uJ, isO_put, isOw_put, put_fst, okv_int, okv_long, okv_ref, okv_bool, okv_byte, cat1_unset, cat1_int, cat1_ref, cs_nil, cs_int, cs_ref, cs_long, cmpL_lt, cmpL_gt, cmpL_eq, sI_uI, sI_uJ, sI_uA, sI_uB, sJ_uI, sJ_uJ, sJ_uA, sJ_uB, sA_uI, sA_uJ, sA_uA, sA_uB, sB_uI, sB_uJ, sB_uA, sB_uB, sI_fA, sJ_fA, sA_fA, sB_fA, sI_z0, sJ_z0, sA_z0, sB_z0, Option.toList_some, Option.toList_none, List.cons_append, List.nil_append, true_and, and_true, false_and, and_false, or_false, false_or, or_true, true_or, not_true_eq_false, not_false_eq_true, ↓reduceIte, Nat.reduceAdd, Nat.reduceLeDiff, Nat.reduceEqDiff, Nat.reduceSub, Int32.reduceAdd, Int32.reduceSub, Int32.reduceMul, Int32.reduceToNatClampNeg, Int64.reduceAdd, Int64.reduceSub, Int64.reduceMul, Int64.reduceLT, Int32.reduceLT, Int32.reduceToInt, Nat.add_zero, Nat.zero_add, Nat.le_refl, eq_self, implies_true, ne_eq, h1, bz, decide_false]
  · by_cases h2 : 90 < c
    · simp +decide only [w20_0, w20_1, w20_3, w20_6, w20_7, w20_9, w20_12, w20_13, w20_16, w20_17, zr_z0, zr_uI, zr_uJ, isO_put, isOw_put, put_fst, okv_int, okv_long, okv_ref, okv_bool, okv_byte, cat1_unset, cat1_int, cat1_ref, cs_nil, cs_int, cs_ref, cs_long, cmpL_lt, cmpL_gt, cmpL_eq, sI_uI, sI_uJ, sI_uA, sI_uB, sJ_uI, sJ_uJ, sJ_uA, sJ_uB, sA_uI, sA_uJ, sA_uA, sA_uB, sB_uI, sB_uJ, sB_uA, sB_uB, sI_fA, sJ_fA, sA_fA, sB_fA, sI_z0, sJ_z0, sA_z0, sB_z0, Option.toList_some, Option.toList_none, List.cons_append, List.nil_append, true_and, and_true, false_and, and_false, or_false, false_or, or_true, true_or, not_true_eq_false, not_false_eq_true, ↓reduceIte, Nat.reduceAdd, Nat.reduceLeDiff, Nat.reduceEqDiff, Nat.reduceSub, Int32.reduceAdd, Int32.reduceSub, Int32.reduceMul, Int32.reduceToNatClampNeg, Int64.reduceAdd, Int64.reduceSub, Int64.reduceMul, Int64.reduceLT, Int32.reduceLT, Int32.reduceToInt, Nat.add_zero, Nat.zero_add, Nat.le_refl, eq_self, implies_true, ne_eq, h1, h2, bz, decide_false]
    · simp +decide only [w20_0, w20_1, w20_3, w20_6, w20_7, w20_9, w20_12, w20_13, w20_16, w20_17, zr_z0, zr_uI, zr_uJ, isO_put, isOw_put, put_fst, okv_int, okv_long, okv_ref, okv_bool, okv_byte, cat1_unset, cat1_int, cat1_ref, cs_nil, cs_int, cs_ref, cs_long, cmpL_lt, cmpL_gt, cmpL_eq, sI_uI, sI_uJ, sI_uA, sI_uB, sJ_uI, sJ_uJ, sJ_uA, sJ_uB, sA_uI, sA_uJ, sA_uA, sA_uB, sB_uI, sB_uJ, sB_uA, sB_uB, sI_fA, sJ_fA, sA_fA, sB_fA, sI_z0, sJ_z0, sA_z0, sB_z0, Option.toList_some, Option.toList_none, List.cons_append, List.nil_append, true_and, and_true, false_and, and_false, or_false, false_or, or_true, true_or, not_true_eq_false, not_false_eq_true, ↓reduceIte, Nat.reduceAdd, Nat.reduceLeDiff, Nat.reduceEqDiff, Nat.reduceSub, Int32.reduceAdd, Int32.reduceSub, Int32.reduceMul, Int32.reduceToNatClampNeg, Int64.reduceAdd, Int64.reduceSub, Int64.reduceMul, Int64.reduceLT, Int32.reduceLT, Int32.reduceToInt, Nat.add_zero, Nat.zero_add, Nat.le_refl, eq_self, implies_true, ne_eq, h1, h2, bz, decide_true]
theorem t21 : Cl (pj lw) 21 [.ref p, .int c] H Q ↔ Q (some (.int (bz (rgc 97 122 c)))) H := by
  rw [c21]; unfold rgc
  by_cases h1 : c < 97
  · simp +decide only [w21_0, w21_1, w21_3, w21_6, w21_7, w21_9, w21_12, w21_13, w21_16, w21_17, zr_z0, zr_uI, zr_uJ, isO_put, isOw_put, put_fst, okv_int, okv_long, okv_ref, okv_bool, okv_byte, cat1_unset, cat1_int, cat1_ref, cs_nil, cs_int, cs_ref, cs_long, cmpL_lt, cmpL_gt, cmpL_eq, sI_uI, sI_uJ, sI_uA, sI_uB, sJ_uI, sJ_uJ, sJ_uA, sJ_uB, sA_uI, sA_uJ, sA_uA, sA_uB, sB_uI, sB_uJ, sB_uA, sB_uB, sI_fA, sJ_fA, sA_fA, sB_fA, sI_z0, sJ_z0, sA_z0, sB_z0, Option.toList_some, Option.toList_none, List.cons_append, List.nil_append, true_and, and_true, false_and, and_false, or_false, false_or, or_true, true_or, not_true_eq_false, not_false_eq_true, ↓reduceIte, Nat.reduceAdd, Nat.reduceLeDiff, Nat.reduceEqDiff, Nat.reduceSub, Int32.reduceAdd, Int32.reduceSub, Int32.reduceMul, Int32.reduceToNatClampNeg, Int64.reduceAdd, Int64.reduceSub, Int64.reduceMul, Int64.reduceLT, Int32.reduceLT, Int32.reduceToInt, Nat.add_zero, Nat.zero_add, Nat.le_refl, eq_self, implies_true, ne_eq, h1, bz, decide_false]
  · by_cases h2 : 122 < c
    · simp +decide only [w21_0, w21_1, w21_3, w21_6, w21_7, w21_9, w21_12, w21_13, w21_16, w21_17, zr_z0, zr_uI, zr_uJ, isO_put, isOw_put, put_fst, okv_int, okv_long, okv_ref, okv_bool, okv_byte, cat1_unset, cat1_int, cat1_ref, cs_nil, cs_int, cs_ref, cs_long, cmpL_lt, cmpL_gt, cmpL_eq, sI_uI, sI_uJ, sI_uA, sI_uB, sJ_uI, sJ_uJ, sJ_uA, sJ_uB, sA_uI, sA_uJ, sA_uA, sA_uB, sB_uI, sB_uJ, sB_uA, sB_uB, sI_fA, sJ_fA, sA_fA, sB_fA, sI_z0, sJ_z0, sA_z0, sB_z0, Option.toList_some, Option.toList_none, List.cons_append, List.nil_append, true_and, and_true, false_and, and_false, or_false, false_or, or_true, true_or, not_true_eq_false, not_false_eq_true, ↓reduceIte, Nat.reduceAdd, Nat.reduceLeDiff, Nat.reduceEqDiff, Nat.reduceSub, Int32.reduceAdd, Int32.reduceSub, Int32.reduceMul, Int32.reduceToNatClampNeg, Int64.reduceAdd, Int64.reduceSub, Int64.reduceMul, Int64.reduceLT, Int32.reduceLT, Int32.reduceToInt, Nat.add_zero, Nat.zero_add, Nat.le_refl, eq_self, implies_true, ne_eq, h1, h2, bz, decide_false]
    · simp +decide only [w21_0, w21_1, w21_3, w21_6, w21_7, w21_9, w21_12, w21_13, w21_16, w21_17, zr_z0, zr_uI, zr_uJ, isO_put, isOw_put, put_fst, okv_int, okv_long, okv_ref, okv_bool, okv_byte, cat1_unset, cat1_int, cat1_ref, cs_nil, cs_int, cs_ref, cs_long, cmpL_lt, cmpL_gt, cmpL_eq, sI_uI, sI_uJ, sI_uA, sI_uB, sJ_uI, sJ_uJ, sJ_uA, sJ_uB, sA_uI, sA_uJ, sA_uA, sA_uB, sB_uI, sB_uJ, sB_uA, sB_uB, sI_fA, sJ_fA, sA_fA, sB_fA, sI_z0, sJ_z0, sA_z0, sB_z0, Option.toList_some, Option.toList_none, List.cons_append, List.nil_append, true_and, and_true, false_and, and_false, or_false, false_or, or_true, true_or, not_true_eq_false, not_false_eq_true, ↓reduceIte, Nat.reduceAdd, Nat.reduceLeDiff, Nat.reduceEqDiff, Nat.reduceSub, Int32.reduceAdd, Int32.reduceSub, Int32.reduceMul, Int32.reduceToNatClampNeg, Int64.reduceAdd, Int64.reduceSub, Int64.reduceMul, Int64.reduceLT, Int32.reduceLT, Int32.reduceToInt, Nat.add_zero, Nat.zero_add, Nat.le_refl, eq_self, implies_true, ne_eq, h1, h2, bz, decide_true]
theorem t22 : Cl (pj lw) 22 [.ref p, .int c] H Q ↔ Q (some (.int (bz (rgc 48 57 c)))) H := by
  rw [c22]; unfold rgc
  by_cases h1 : c < 48
  · simp +decide only [w22_0, w22_1, w22_3, w22_6, w22_7, w22_9, w22_12, w22_13, w22_16, w22_17, zr_z0, zr_uI, zr_uJ, isO_put, isOw_put, put_fst, okv_int, okv_long, okv_ref, okv_bool, okv_byte, cat1_unset, cat1_int, cat1_ref, cs_nil, cs_int, cs_ref, cs_long, cmpL_lt, cmpL_gt, cmpL_eq, sI_uI, sI_uJ, sI_uA, sI_uB, sJ_uI, sJ_uJ, sJ_uA, sJ_uB, sA_uI, sA_uJ, sA_uA, sA_uB, sB_uI, sB_uJ, sB_uA, sB_uB, sI_fA, sJ_fA, sA_fA, sB_fA, sI_z0, sJ_z0, sA_z0, sB_z0, Option.toList_some, Option.toList_none, List.cons_append, List.nil_append, true_and, and_true, false_and, and_false, or_false, false_or, or_true, true_or, not_true_eq_false, not_false_eq_true, ↓reduceIte, Nat.reduceAdd, Nat.reduceLeDiff, Nat.reduceEqDiff, Nat.reduceSub, Int32.reduceAdd, Int32.reduceSub, Int32.reduceMul, Int32.reduceToNatClampNeg, Int64.reduceAdd, Int64.reduceSub, Int64.reduceMul, Int64.reduceLT, Int32.reduceLT, Int32.reduceToInt, Nat.add_zero, Nat.zero_add, Nat.le_refl, eq_self, implies_true, ne_eq, h1, bz, decide_false]
  · by_cases h2 : 57 < c
    · simp +decide only [w22_0, w22_1, w22_3, w22_6, w22_7, w22_9, w22_12, w22_13, w22_16, w22_17, zr_z0, zr_uI, zr_uJ, isO_put, isOw_put, put_fst, okv_int, okv_long, okv_ref, okv_bool, okv_byte, cat1_unset, cat1_int, cat1_ref, cs_nil, cs_int, cs_ref, cs_long, cmpL_lt, cmpL_gt, cmpL_eq, sI_uI, sI_uJ, sI_uA, sI_uB, sJ_uI, sJ_uJ, sJ_uA, sJ_uB, sA_uI, sA_uJ, sA_uA, sA_uB, sB_uI, sB_uJ, sB_uA, sB_uB, sI_fA, sJ_fA, sA_fA, sB_fA, sI_z0, sJ_z0, sA_z0, sB_z0, Option.toList_some, Option.toList_none, List.cons_append, List.nil_append, true_and, and_true, false_and, and_false, or_false, false_or, or_true, true_or, not_true_eq_false, not_false_eq_true, ↓reduceIte, Nat.reduceAdd, Nat.reduceLeDiff, Nat.reduceEqDiff, Nat.reduceSub, Int32.reduceAdd, Int32.reduceSub, Int32.reduceMul, Int32.reduceToNatClampNeg, Int64.reduceAdd, Int64.reduceSub, Int64.reduceMul, Int64.reduceLT, Int32.reduceLT, Int32.reduceToInt, Nat.add_zero, Nat.zero_add, Nat.le_refl, eq_self, implies_true, ne_eq, h1, h2, bz, decide_false]
    · simp +decide only [w22_0, w22_1, w22_3, w22_6, w22_7, w22_9, w22_12, w22_13, w22_16, w22_17, zr_z0, zr_uI, zr_uJ, isO_put, isOw_put, put_fst, okv_int, okv_long, okv_ref, okv_bool, okv_byte, cat1_unset, cat1_int, cat1_ref, cs_nil, cs_int, cs_ref, cs_long, cmpL_lt, cmpL_gt, cmpL_eq, sI_uI, sI_uJ, sI_uA, sI_uB, sJ_uI, sJ_uJ, sJ_uA, sJ_uB, sA_uI, sA_uJ, sA_uA, sA_uB, sB_uI, sB_uJ, sB_uA, sB_uB, sI_fA, sJ_fA, sA_fA, sB_fA, sI_z0, sJ_z0, sA_z0, sB_z0, Option.toList_some, Option.toList_none, List.cons_append, List.nil_append, true_and, and_true, false_and, and_false, or_false, false_or, or_true, true_or, not_true_eq_false, not_false_eq_true, ↓reduceIte, Nat.reduceAdd, Nat.reduceLeDiff, Nat.reduceEqDiff, Nat.reduceSub, Int32.reduceAdd, Int32.reduceSub, Int32.reduceMul, Int32.reduceToNatClampNeg, Int64.reduceAdd, Int64.reduceSub, Int64.reduceMul, Int64.reduceLT, Int32.reduceLT, Int32.reduceToInt, Nat.add_zero, Nat.zero_add, Nat.le_refl, eq_self, implies_true, ne_eq, h1, h2, bz, decide_true]
theorem t23 (h : rgc 65 90 c = true ∨ rgc 48 57 c = true ∨ c = 43 ∨ c = 61) : Cl (pj lw) 23 [.ref p, .int c] (ob H p s) Q ↔ Q (some (.int 1)) (ob H p s) := by
  rw [c23]
  cases e1 : rgc 65 90 c with
  | true => simp +decide only [w23_0, w23_1, w23_2, w23_5, w23_8, w23_9, w23_10, w23_13, w23_16, w23_17, w23_18, w23_21, w23_24, w23_25, w23_26, w23_27, w23_29, w23_32, w23_33, w23_35, w23_38, w23_39, w23_41, w23_44, w23_45, w23_47, w23_50, w23_51, w23_52, w23_53, w23_55, w23_58, w23_59, w23_61, w23_64, w23_65, w23_67, w23_70, w23_71, w23_73, w23_76, w23_77, w23_79, w23_82, w23_83, w23_86, w23_87, zr_z0, zr_uI, zr_uJ, isO_put, isOw_put, put_fst, okv_int, okv_long, okv_ref, okv_bool, okv_byte, cat1_unset, cat1_int, cat1_ref, cs_nil, cs_int, cs_ref, cs_long, cmpL_lt, cmpL_gt, cmpL_eq, sI_uI, sI_uJ, sI_uA, sI_uB, sJ_uI, sJ_uJ, sJ_uA, sJ_uB, sA_uI, sA_uJ, sA_uA, sA_uB, sB_uI, sB_uJ, sB_uA, sB_uB, sI_fA, sJ_fA, sA_fA, sB_fA, sI_z0, sJ_z0, sA_z0, sB_z0, Option.toList_some, Option.toList_none, List.cons_append, List.nil_append, true_and, and_true, false_and, and_false, or_false, false_or, or_true, true_or, not_true_eq_false, not_false_eq_true, ↓reduceIte, Nat.reduceAdd, Nat.reduceLeDiff, Nat.reduceEqDiff, Nat.reduceSub, Int32.reduceAdd, Int32.reduceSub, Int32.reduceMul, Int32.reduceToNatClampNeg, Int64.reduceAdd, Int64.reduceSub, Int64.reduceMul, Int64.reduceLT, Int32.reduceLT, Int32.reduceToInt, Nat.add_zero, Nat.zero_add, Nat.le_refl, eq_self, implies_true, ne_eq, g0, s0, g1, s1, g2, g3, s3, g4, g5, g6, s6, g7, s7, g8, s8, g9, s9, g10, s10, g11, s11, g12, s12, g13, s13, g14, g15, g16, g17, g18, g19, g20, g21, g22, g23, g24, g25, g26, s26, g27, s27, ai1, aw1, ae1, as1, ai2, aw2, ae2, as2, ai3, aw3, ae3, as3, ai4, aw4, ae4, as4, ai5, aw5, ae5, as5, ai6, aw6, ae6, as6, ai7, aw7, ae7, as7, ai8, aw8, ae8, as8, ai9, aw9, ae9, as9, ai10, aw10, ae10, as10, ai11, aw11, ae11, as11, ai12, aw12, ae12, as12, ai13, aw13, ae13, as13, ai14, aw14, ae14, as14, ai15, aw15, ae15, as15, t20, e1, bz]
  | false =>
    cases e2 : rgc 97 122 c with
    | true => simp +decide only [w23_0, w23_1, w23_2, w23_5, w23_8, w23_9, w23_10, w23_13, w23_16, w23_17, w23_18, w23_21, w23_24, w23_25, w23_26, w23_27, w23_29, w23_32, w23_33, w23_35, w23_38, w23_39, w23_41, w23_44, w23_45, w23_47, w23_50, w23_51, w23_52, w23_53, w23_55, w23_58, w23_59, w23_61, w23_64, w23_65, w23_67, w23_70, w23_71, w23_73, w23_76, w23_77, w23_79, w23_82, w23_83, w23_86, w23_87, zr_z0, zr_uI, zr_uJ, isO_put, isOw_put, put_fst, okv_int, okv_long, okv_ref, okv_bool, okv_byte, cat1_unset, cat1_int, cat1_ref, cs_nil, cs_int, cs_ref, cs_long, cmpL_lt, cmpL_gt, cmpL_eq, sI_uI, sI_uJ, sI_uA, sI_uB, sJ_uI, sJ_uJ, sJ_uA, sJ_uB, sA_uI, sA_uJ, sA_uA, sA_uB, sB_uI, sB_uJ, sB_uA, sB_uB, sI_fA, sJ_fA, sA_fA, sB_fA, sI_z0, sJ_z0, sA_z0, sB_z0, Option.toList_some, Option.toList_none, List.cons_append, List.nil_append, true_and, and_true, false_and, and_false, or_false, false_or, or_true, true_or, not_true_eq_false, not_false_eq_true, ↓reduceIte, Nat.reduceAdd, Nat.reduceLeDiff, Nat.reduceEqDiff, Nat.reduceSub, Int32.reduceAdd, Int32.reduceSub, Int32.reduceMul, Int32.reduceToNatClampNeg, Int64.reduceAdd, Int64.reduceSub, Int64.reduceMul, Int64.reduceLT, Int32.reduceLT, Int32.reduceToInt, Nat.add_zero, Nat.zero_add, Nat.le_refl, eq_self, implies_true, ne_eq, g0, s0, g1, s1, g2, g3, s3, g4, g5, g6, s6, g7, s7, g8, s8, g9, s9, g10, s10, g11, s11, g12, s12, g13, s13, g14, g15, g16, g17, g18, g19, g20, g21, g22, g23, g24, g25, g26, s26, g27, s27, ai1, aw1, ae1, as1, ai2, aw2, ae2, as2, ai3, aw3, ae3, as3, ai4, aw4, ae4, as4, ai5, aw5, ae5, as5, ai6, aw6, ae6, as6, ai7, aw7, ae7, as7, ai8, aw8, ae8, as8, ai9, aw9, ae9, as9, ai10, aw10, ae10, as10, ai11, aw11, ae11, as11, ai12, aw12, ae12, as12, ai13, aw13, ae13, as13, ai14, aw14, ae14, as14, ai15, aw15, ae15, as15, t20, t21, e1, e2, bz]
    | false =>
      cases e3 : rgc 48 57 c with
      | true => simp +decide only [w23_0, w23_1, w23_2, w23_5, w23_8, w23_9, w23_10, w23_13, w23_16, w23_17, w23_18, w23_21, w23_24, w23_25, w23_26, w23_27, w23_29, w23_32, w23_33, w23_35, w23_38, w23_39, w23_41, w23_44, w23_45, w23_47, w23_50, w23_51, w23_52, w23_53, w23_55, w23_58, w23_59, w23_61, w23_64, w23_65, w23_67, w23_70, w23_71, w23_73, w23_76, w23_77, w23_79, w23_82, w23_83, w23_86, w23_87, zr_z0, zr_uI, zr_uJ, isO_put, isOw_put, put_fst, okv_int, okv_long, okv_ref, okv_bool, okv_byte, cat1_unset, cat1_int, cat1_ref, cs_nil, cs_int, cs_ref, cs_long, cmpL_lt, cmpL_gt, cmpL_eq, sI_uI, sI_uJ, sI_uA, sI_uB, sJ_uI, sJ_uJ, sJ_uA, sJ_uB, sA_uI, sA_uJ, sA_uA, sA_uB, sB_uI, sB_uJ, sB_uA, sB_uB, sI_fA, sJ_fA, sA_fA, sB_fA, sI_z0, sJ_z0, sA_z0, sB_z0, Option.toList_some, Option.toList_none, List.cons_append, List.nil_append, true_and, and_true, false_and, and_false, or_false, false_or, or_true, true_or, not_true_eq_false, not_false_eq_true, ↓reduceIte, Nat.reduceAdd, Nat.reduceLeDiff, Nat.reduceEqDiff, Nat.reduceSub, Int32.reduceAdd, Int32.reduceSub, Int32.reduceMul, Int32.reduceToNatClampNeg, Int64.reduceAdd, Int64.reduceSub, Int64.reduceMul, Int64.reduceLT, Int32.reduceLT, Int32.reduceToInt, Nat.add_zero, Nat.zero_add, Nat.le_refl, eq_self, implies_true, ne_eq, g0, s0, g1, s1, g2, g3, s3, g4, g5, g6, s6, g7, s7, g8, s8, g9, s9, g10, s10, g11, s11, g12, s12, g13, s13, g14, g15, g16, g17, g18, g19, g20, g21, g22, g23, g24, g25, g26, s26, g27, s27, ai1, aw1, ae1, as1, ai2, aw2, ae2, as2, ai3, aw3, ae3, as3, ai4, aw4, ae4, as4, ai5, aw5, ae5, as5, ai6, aw6, ae6, as6, ai7, aw7, ae7, as7, ai8, aw8, ae8, as8, ai9, aw9, ae9, as9, ai10, aw10, ae10, as10, ai11, aw11, ae11, as11, ai12, aw12, ae12, as12, ai13, aw13, ae13, as13, ai14, aw14, ae14, as14, ai15, aw15, ae15, as15, t20, t21, t22, e1, e2, e3, bz]
      | false =>
        rcases h with w | w | w | w
        · rw [e1] at w; cases w
        · rw [e3] at w; cases w
        · subst w; simp +decide only [w23_0, w23_1, w23_2, w23_5, w23_8, w23_9, w23_10, w23_13, w23_16, w23_17, w23_18, w23_21, w23_24, w23_25, w23_26, w23_27, w23_29, w23_32, w23_33, w23_35, w23_38, w23_39, w23_41, w23_44, w23_45, w23_47, w23_50, w23_51, w23_52, w23_53, w23_55, w23_58, w23_59, w23_61, w23_64, w23_65, w23_67, w23_70, w23_71, w23_73, w23_76, w23_77, w23_79, w23_82, w23_83, w23_86, w23_87, zr_z0, zr_uI, zr_uJ, isO_put, isOw_put, put_fst, okv_int, okv_long, okv_ref, okv_bool, okv_byte, cat1_unset, cat1_int, cat1_ref, cs_nil, cs_int, cs_ref, cs_long, cmpL_lt, cmpL_gt, cmpL_eq, sI_uI, sI_uJ, sI_uA, sI_uB, sJ_uI, sJ_uJ, sJ_uA, sJ_uB, sA_uI, sA_uJ, sA_uA, sA_uB, sB_uI, sB_uJ, sB_uA, sB_uB, sI_fA, sJ_fA, sA_fA, sB_fA, sI_z0, sJ_z0, sA_z0, sB_z0, Option.toList_some, Option.toList_none, List.cons_append, List.nil_append, true_and, and_true, false_and, and_false, or_false, false_or, or_true, true_or, not_true_eq_false, not_false_eq_true, ↓reduceIte, Nat.reduceAdd, Nat.reduceLeDiff, Nat.reduceEqDiff, Nat.reduceSub, Int32.reduceAdd, Int32.reduceSub, Int32.reduceMul, Int32.reduceToNatClampNeg, Int64.reduceAdd, Int64.reduceSub, Int64.reduceMul, Int64.reduceLT, Int32.reduceLT, Int32.reduceToInt, Nat.add_zero, Nat.zero_add, Nat.le_refl, eq_self, implies_true, ne_eq, g0, s0, g1, s1, g2, g3, s3, g4, g5, g6, s6, g7, s7, g8, s8, g9, s9, g10, s10, g11, s11, g12, s12, g13, s13, g14, g15, g16, g17, g18, g19, g20, g21, g22, g23, g24, g25, g26, s26, g27, s27, ai1, aw1, ae1, as1, ai2, aw2, ae2, as2, ai3, aw3, ae3, as3, ai4, aw4, ae4, as4, ai5, aw5, ae5, as5, ai6, aw6, ae6, as6, ai7, aw7, ae7, as7, ai8, aw8, ae8, as8, ai9, aw9, ae9, as9, ai10, aw10, ae10, as10, ai11, aw11, ae11, as11, ai12, aw12, ae12, as12, ai13, aw13, ae13, as13, ai14, aw14, ae14, as14, ai15, aw15, ae15, as15, t20, t21, t22, bz, rgc]
        · subst w; simp +decide only [w23_0, w23_1, w23_2, w23_5, w23_8, w23_9, w23_10, w23_13, w23_16, w23_17, w23_18, w23_21, w23_24, w23_25, w23_26, w23_27, w23_29, w23_32, w23_33, w23_35, w23_38, w23_39, w23_41, w23_44, w23_45, w23_47, w23_50, w23_51, w23_52, w23_53, w23_55, w23_58, w23_59, w23_61, w23_64, w23_65, w23_67, w23_70, w23_71, w23_73, w23_76, w23_77, w23_79, w23_82, w23_83, w23_86, w23_87, zr_z0, zr_uI, zr_uJ, isO_put, isOw_put, put_fst, okv_int, okv_long, okv_ref, okv_bool, okv_byte, cat1_unset, cat1_int, cat1_ref, cs_nil, cs_int, cs_ref, cs_long, cmpL_lt, cmpL_gt, cmpL_eq, sI_uI, sI_uJ, sI_uA, sI_uB, sJ_uI, sJ_uJ, sJ_uA, sJ_uB, sA_uI, sA_uJ, sA_uA, sA_uB, sB_uI, sB_uJ, sB_uA, sB_uB, sI_fA, sJ_fA, sA_fA, sB_fA, sI_z0, sJ_z0, sA_z0, sB_z0, Option.toList_some, Option.toList_none, List.cons_append, List.nil_append, true_and, and_true, false_and, and_false, or_false, false_or, or_true, true_or, not_true_eq_false, not_false_eq_true, ↓reduceIte, Nat.reduceAdd, Nat.reduceLeDiff, Nat.reduceEqDiff, Nat.reduceSub, Int32.reduceAdd, Int32.reduceSub, Int32.reduceMul, Int32.reduceToNatClampNeg, Int64.reduceAdd, Int64.reduceSub, Int64.reduceMul, Int64.reduceLT, Int32.reduceLT, Int32.reduceToInt, Nat.add_zero, Nat.zero_add, Nat.le_refl, eq_self, implies_true, ne_eq, g0, s0, g1, s1, g2, g3, s3, g4, g5, g6, s6, g7, s7, g8, s8, g9, s9, g10, s10, g11, s11, g12, s12, g13, s13, g14, g15, g16, g17, g18, g19, g20, g21, g22, g23, g24, g25, g26, s26, g27, s27, ai1, aw1, ae1, as1, ai2, aw2, ae2, as2, ai3, aw3, ae3, as3, ai4, aw4, ae4, as4, ai5, aw5, ae5, as5, ai6, aw6, ae6, as6, ai7, aw7, ae7, as7, ai8, aw8, ae8, as8, ai9, aw9, ae9, as9, ai10, aw10, ae10, as10, ai11, aw11, ae11, as11, ai12, aw12, ae12, as12, ai13, aw13, ae13, as13, ai14, aw14, ae14, as14, ai15, aw15, ae15, as15, t20, t21, t22, bz, rgc]
theorem t2 (hl : ¬ sI s 3 < 0) (hl2 : sI s 3 < 96) (h : rgc 65 90 c = true ∨ rgc 48 57 c = true ∨ c = 43 ∨ c = 61) : Cl (pj lw) 2 [.ref p, .int c] (ob H p s) Q ↔ Q (some (.int 1)) (ob H p (uI (uA s 1 (sI s 3).toNatClampNeg c) 3 (sI s 3 + 1))) := by
  have hx : 0 ≤ (sI s 3).toInt ∧ (sI s 3).toInt < 96 := by rw [lt32] at hl hl2; simp only [Int32.reduceToInt] at hl hl2; omega
  have q := fun Q => t23 (lw := lw) (H := H) (p := p) (s := s) (Q := Q) h
  rw [c2]; simp +decide only [w2_0, w2_1, w2_4, w2_7, w2_8, w2_11, w2_13, w2_16, w2_17, w2_18, w2_19, w2_20, w2_23, w2_26, w2_27, w2_28, w2_29, w2_32, w2_33, w2_36, w2_37, w2_38, w2_39, w2_40, w2_43, w2_44, w2_45, w2_48, w2_49, zr_z0, zr_uI, zr_uJ, isO_put, isOw_put, put_fst, okv_int, okv_long, okv_ref, okv_bool, okv_byte, cat1_unset, cat1_int, cat1_ref, cs_nil, cs_int, cs_ref, cs_long, cmpL_lt, cmpL_gt, cmpL_eq, sI_uI, sI_uJ, sI_uA, sI_uB, sJ_uI, sJ_uJ, sJ_uA, sJ_uB, sA_uI, sA_uJ, sA_uA, sA_uB, sB_uI, sB_uJ, sB_uA, sB_uB, sI_fA, sJ_fA, sA_fA, sB_fA, sI_z0, sJ_z0, sA_z0, sB_z0, Option.toList_some, Option.toList_none, List.cons_append, List.nil_append, true_and, and_true, false_and, and_false, or_false, false_or, or_true, true_or, not_true_eq_false, not_false_eq_true, ↓reduceIte, Nat.reduceAdd, Nat.reduceLeDiff, Nat.reduceEqDiff, Nat.reduceSub, Int32.reduceAdd, Int32.reduceSub, Int32.reduceMul, Int32.reduceToNatClampNeg, Int64.reduceAdd, Int64.reduceSub, Int64.reduceMul, Int64.reduceLT, Int32.reduceLT, Int32.reduceToInt, Nat.add_zero, Nat.zero_add, Nat.le_refl, eq_self, implies_true, ne_eq, g0, s0, g1, s1, g2, g3, s3, g4, g5, g6, s6, g7, s7, g8, s8, g9, s9, g10, s10, g11, s11, g12, s12, g13, s13, g14, g15, g16, g17, g18, g19, g20, g21, g22, g23, g24, g25, g26, s26, g27, s27, ai1, aw1, ae1, as1, ai2, aw2, ae2, as2, ai3, aw3, ae3, as3, ai4, aw4, ae4, as4, ai5, aw5, ae5, as5, ai6, aw6, ae6, as6, ai7, aw7, ae7, as7, ai8, aw8, ae8, as8, ai9, aw9, ae9, as9, ai10, aw10, ae10, as10, ai11, aw11, ae11, as11, ai12, aw12, ae12, as12, ai13, aw13, ae13, as13, ai14, aw14, ae14, as14, ai15, aw15, ae15, as15, hx, hl, hl2, q]
def F1 (s : St) (cx cy dp dq dr ds : Int32) : Prop := (sI s 3 = 10 ∧ sI s 0 = 3 ∧ sI s 1 = 2) ∧ (sA s 1 0 = cx ∧ sA s 1 1 = dp ∧ sA s 1 2 = cy ∧ sA s 1 3 = dq ∧ sA s 1 4 = 61) ∧ (sA s 1 5 = cx ∧ sA s 1 6 = dr ∧ sA s 1 7 = 43 ∧ sA s 1 8 = cy ∧ sA s 1 9 = ds)
def F2 (s : St) (cx cy dp dq dr ds : Int32) : Prop := F1 s cx cy dp dq dr ds ∧ (sI s 6 = 2 ∧ sI s 7 = 3 ∧ sI s 8 = 1) ∧ (sA s 3 0 = (cx - 65) * 27 ∧ sA s 3 1 = (cy - 65) * 27)
set_option maxRecDepth 100000 in
set_option maxHeartbeats 4000000 in
theorem v24 (F : F1 s cx cy dp dq dr ds) (ux : (cx < 65) = False) (ux2 : (90 < cx) = False) (uy : (cy < 65) = False) (uy2 : (90 < cy) = False) (xd : (cx < 48) = False) (xd2 : (57 < cx) = True) (yd : (cy < 48) = False) (yd2 : (57 < cy) = True) (hne : ((cx - 65) * 27 = (cy - 65) * 27) = False) (hne' : ((cy - 65) * 27 = (cx - 65) * 27) = False) (p1 : (dp < 48) = False) (p2 : (57 < dp) = False) (p3 : (dp = 48) = False) (p4 : (dp < 97) = True) (q1 : (dq < 48) = False) (q2 : (57 < dq) = False) (q3 : (dq = 48) = False) (q4 : (dq < 97) = True) (r1 : (dr < 48) = False) (r2 : (57 < dr) = False) (r3 : (dr = 48) = False) (r4 : (dr < 97) = True) (z1 : (ds < 48) = False) (z2 : (57 < ds) = False) (z3 : (ds = 48) = False) (z4 : (ds < 97) = True) (hq : ∀ s', F2 s' cx cy dp dq dr ds → Q (some (.int 1)) (ob H p s')) : Cl (pj lw) 24 [.ref p] (ob H p s) Q := by
  obtain ⟨⟨f3, f0, f1⟩, ⟨b0, b1, b2, b3, b4⟩, b5, b6, b7, b8, b9⟩ := F
  rw [c24]
  simp +decide only [w24_0, w24_1, w24_2, w24_5, w24_6, w24_7, w24_10, w24_11, w24_12, w24_15, w24_16, w24_17, w24_18, w24_19, w24_20, w24_21, w24_22, w24_24, w24_25, w24_29, w24_31, w24_34, w24_35, w24_36, w24_39, w24_42, w24_43, w24_46, w24_47, w24_48i, w24_48, w24_50, w24_51, w24_53, w24_56, w24_59, w24_60, w24_61, w24_64i, w24_65, w24_66, w24_69, w24_70, w24_71, w24_72i, w24_73, w24_76, w24_78, w24_80, w24_83, w24_85, w24_87, w24_90, w24_91, w24_92, w24_95, w24_96, w24_97, w24_98, w24_101, w24_102, w24_104, w24_105, w24_108, w24_111, w24_112i, w24_113, w24_116, w24_117, w24_120, w24_121, w24_122, w24_124, w24_126, w24_129, w24_131, w24_133, w24_136, w24_138, w24_140, w24_143, w24_145, w24_148, w24_150i, w24_150, w24_152, w24_153, w24_156, w24_157, w24_160, w24_161, w24_162, w24_163, w24_164, w24_166, w24_169, w24_170, w24_171, w24_174, w24_175, w24_176, w24_177, w24_178, w24_181i, w24_182, w24_183, w24_186, w24_187, w24_188, w24_191, w24_192, w24_195, w24_196, w24_197, w24_199, w24_201, w24_204, w24_205, w24_206, w24_207, w24_208, w24_211i, w24_212, w24_213, w24_216, w24_217, w24_218, w24_219i, w24_220, w24_223, w24_225, w24_227, w24_230, w24_231, w24_242, w24_244, w24_246, w24_249, w24_250, w24_251, w24_254, w24_255, w24_256, w24_259, w24_262, w24_263i, w24_264, w24_267, w24_269, w24_271, w24_274, w24_276, w24_279, w24_280, w24_281, w24_282i, w24_284, w24_285, w24_286, w24_289, w24_292, w24_293, w24_294, w24_297, w24_298, w24_299, w24_302, w24_305, w24_306i, w24_307, w24_310, w24_311, w24_312, w24_315, w24_318, w24_319, w24_320, w24_323, w24_326, w24_327, w24_330, w24_331, w24_334, w24_336, w24_339, w24_340, w24_343, w24_344, w24_27, c25, w25_0, w25_1, w25_4, w25_5, w25_6, w25_8, w25_9, w25_11, w25_12, w25_13, w25_14, w25_15, w25_16, w25_17, w25_18, w25_19, w25_22, w25_25, w25_26, w25_27, w25_30, w25_31, w25_32, w25_35, w25_38, w25_39, w25_40, w25_43, w25_44, w25_45, w25_47, w25_48, w25_49, w25_50, w25_51i, w25_52, w25_55, w25_56, w25_57, w25_60, w25_61, w25_62, w25_65, c26, w26_0, w26_1, w26_3, w26_4, w26_7, w26_10, w26_11, w26_13, w26_16, w26_17, w26_20, w26_21, w26_22, w26_23, w26_26, w26_27, w26_30, w26_33, w26_34, w26_37, w26_39, w26_42, w26_43, w26_46, w26_47, w26_50, w26_51, w26_52, w26_53, w26_54, w26_57, w26_58, w26_59, w26_62, c27, w27_0, w27_1, w27_4, w27_5, w27_6, w27_9, w27_12, w27_13, w27_14, w27_17, w27_18, w27_19, w27_22, w27_25, w27_26, w27_27, w27_28, w27_31, w27_32, w27_33, w27_35, w27_38, w27_39, w27_40, w27_41, w27_42, w27_43, w27_44, w27_47, w27_50, w27_51, w27_52, w27_55, w27_56, w27_57, w27_58, w27_59, w27_62, w27_65, w27_66, w27_67, w27_68, w27_69, w27_72, w27_75, w27_76, w27_77, w27_80, w27_81, w27_82, w27_83, w27_84, w27_87, w27_90, w27_91, w27_92, w27_93, w27_94, w27_95, w27_96, w27_97, w27_98, w27_99, w26_2, zr_z0, zr_uI, zr_uJ, isO_put, isOw_put, put_fst, okv_int, okv_long, okv_ref, okv_bool, okv_byte, cat1_unset, cat1_int, cat1_ref, cs_nil, cs_int, cs_ref, cs_long, cmpL_lt, cmpL_gt, cmpL_eq, sI_uI, sI_uJ, sI_uA, sI_uB, sJ_uI, sJ_uJ, sJ_uA, sJ_uB, sA_uI, sA_uJ, sA_uA, sA_uB, sB_uI, sB_uJ, sB_uA, sB_uB, sI_fA, sJ_fA, sA_fA, sB_fA, sI_z0, sJ_z0, sA_z0, sB_z0, Option.toList_some, Option.toList_none, List.cons_append, List.nil_append, true_and, and_true, false_and, and_false, or_false, false_or, or_true, true_or, not_true_eq_false, not_false_eq_true, ↓reduceIte, Nat.reduceAdd, Nat.reduceLeDiff, Nat.reduceEqDiff, Nat.reduceSub, Int32.reduceAdd, Int32.reduceSub, Int32.reduceMul, Int32.reduceToNatClampNeg, Int64.reduceAdd, Int64.reduceSub, Int64.reduceMul, Int64.reduceLT, Int32.reduceLT, Int32.reduceToInt, Nat.add_zero, Nat.zero_add, Nat.le_refl, eq_self, implies_true, ne_eq, g0, s0, g1, s1, g2, g3, s3, g4, g5, g6, s6, g7, s7, g8, s8, g9, s9, g10, s10, g11, s11, g12, s12, g13, s13, g14, g15, g16, g17, g18, g19, g20, g21, g22, g23, g24, g25, g26, s26, g27, s27, ai1, aw1, ae1, as1, ai2, aw2, ae2, as2, ai3, aw3, ae3, as3, ai4, aw4, ae4, as4, ai5, aw5, ae5, as5, ai6, aw6, ae6, as6, ai7, aw7, ae7, as7, ai8, aw8, ae8, as8, ai9, aw9, ae9, as9, ai10, aw10, ae10, as10, ai11, aw11, ae11, as11, ai12, aw12, ae12, as12, ai13, aw13, ae13, as13, ai14, aw14, ae14, as14, ai15, aw15, ae15, as15, t20, t21, t22, rgc, bz, f3, b0, b1, b2, b3, b4, b5, b6, b7, b8, b9, ux, ux2, uy, uy2, xd, xd2, yd, yd2, hne, hne', p1, p2, p3, p4, q1, q2, q3, q4, r1, r2, r3, r4, z1, z2, z3, z4]
  refine hq _ ⟨⟨⟨?_, ?_, ?_⟩, ⟨?_, ?_, ?_, ?_, ?_⟩, ?_, ?_, ?_, ?_, ?_⟩, ⟨?_, ?_, ?_⟩, ?_, ?_⟩ <;> simp +decide only [zr_z0, zr_uI, zr_uJ, isO_put, isOw_put, put_fst, okv_int, okv_long, okv_ref, okv_bool, okv_byte, cat1_unset, cat1_int, cat1_ref, cs_nil, cs_int, cs_ref, cs_long, cmpL_lt, cmpL_gt, cmpL_eq, sI_uI, sI_uJ, sI_uA, sI_uB, sJ_uI, sJ_uJ, sJ_uA, sJ_uB, sA_uI, sA_uJ, sA_uA, sA_uB, sB_uI, sB_uJ, sB_uA, sB_uB, sI_fA, sJ_fA, sA_fA, sB_fA, sI_z0, sJ_z0, sA_z0, sB_z0, Option.toList_some, Option.toList_none, List.cons_append, List.nil_append, true_and, and_true, false_and, and_false, or_false, false_or, or_true, true_or, not_true_eq_false, not_false_eq_true, ↓reduceIte, Nat.reduceAdd, Nat.reduceLeDiff, Nat.reduceEqDiff, Nat.reduceSub, Int32.reduceAdd, Int32.reduceSub, Int32.reduceMul, Int32.reduceToNatClampNeg, Int64.reduceAdd, Int64.reduceSub, Int64.reduceMul, Int64.reduceLT, Int32.reduceLT, Int32.reduceToInt, Nat.add_zero, Nat.zero_add, Nat.le_refl, eq_self, implies_true, ne_eq, f3, f0, f1, b0, b1, b2, b3, b4, b5, b6, b7, b8, b9]
end B

section C
variable {lw : LW} {H : AH} {p j : Nat} {s s' : St} {Q : Option Value → AH → Prop} {a b c d x y cx cy dp dq dr ds : Int32} {h : Nat → Cel} {k n : Nat}
def fB (s : St) (t lo hi : Nat) (v : Int64) : St := (s.1, s.2.1, s.2.2.1, fun t' i => if t' = t ∧ lo ≤ i ∧ i < hi then v else s.2.2.2 t' i)
theorem sI_fB {t lo hi k : Nat} {v : Int64} : sI (fB s t lo hi v) k = sI s k := by simp [sI, fB]
theorem sJ_fB {t lo hi k : Nat} {v : Int64} : sJ (fB s t lo hi v) k = sJ s k := by simp [sJ, fB]
theorem sA_fB {t lo hi t' i : Nat} {v : Int64} : sA (fB s t lo hi v) t' i = sA s t' i := by simp [sA, fB]
theorem sB_fB {t lo hi t' i : Nat} {v : Int64} : sB (fB s t lo hi v) t' i = if t' = t ∧ lo ≤ i ∧ i < hi then v else sB s t' i := by simp [sB, fB]
theorem fB_nil {t lo hi : Nat} {v : Int64} (h : hi ≤ lo) : fB s t lo hi v = s := by
  refine St_ext (fun k => sI_fB) (fun k => sJ_fB) (fun t' i => sA_fB) (fun t' i => ?_)
  rw [sB_fB, if_neg (by omega)]
theorem fB_step {t lo hi : Nat} {v : Int64} (h : lo < hi) : fB (uB s t lo v) t (lo + 1) hi v = fB s t lo hi v := by
  refine St_ext (fun k => by simp only [sI_fB, sI_uB]) (fun k => by simp only [sJ_fB, sJ_uB]) (fun t' i => by simp only [sA_fB, sA_uB]) (fun t' i => ?_)
  simp only [sB_fB, sB_uB]
  by_cases g : t' = t ∧ lo ≤ i ∧ i < hi
  · rw [if_pos g]; split
    · rfl
    · rw [if_pos (by omega)]
  · rw [if_neg g, if_neg (by omega), if_neg (by omega)]
theorem l29_2 (m : Nat) : ∀ (i : Int32) (s : St), i.toInt = 48 - m → 0 ≤ i.toInt → (W (pj lw) 29 2 [.val (.ref p), .val (.int i), .unset, .unset, .unset, .unset, .unset, .unset] [] k n (ob H p s) Q ↔ W (pj lw) 29 21 [.val (.ref p), .val (.int 48), .unset, .unset, .unset, .unset, .unset, .unset] [] k n (ob H p (fB s 9 i.toNatClampNeg 48 0)) Q) := by
  induction m with
  | zero =>
    intro i s hi h0
    have h1 : ¬ i < 48 := by rw [lt32]; simp only [Int32.reduceToInt]; omega
    have e : i = 48 := by rw [eq32]; simp only [Int32.reduceToInt]; omega
    rw [w29_2]; simp +decide only [w29_3, w29_5, w29_8, w29_9, w29_12, w29_13, w29_14, w29_15, w29_18, zr_z0, zr_uI, zr_uJ, isO_put, isOw_put, put_fst, okv_int, okv_long, okv_ref, okv_bool, okv_byte, cat1_unset, cat1_int, cat1_ref, cs_nil, cs_int, cs_ref, cs_long, cmpL_lt, cmpL_gt, cmpL_eq, sI_uI, sI_uJ, sI_uA, sI_uB, sJ_uI, sJ_uJ, sJ_uA, sJ_uB, sA_uI, sA_uJ, sA_uA, sA_uB, sB_uI, sB_uJ, sB_uA, sB_uB, sI_fA, sJ_fA, sA_fA, sB_fA, sI_z0, sJ_z0, sA_z0, sB_z0, Option.toList_some, Option.toList_none, List.cons_append, List.nil_append, true_and, and_true, false_and, and_false, or_false, false_or, or_true, true_or, not_true_eq_false, not_false_eq_true, ↓reduceIte, Nat.reduceAdd, Nat.reduceLeDiff, Nat.reduceEqDiff, Nat.reduceSub, Int32.reduceAdd, Int32.reduceSub, Int32.reduceMul, Int32.reduceToNatClampNeg, Int64.reduceAdd, Int64.reduceSub, Int64.reduceMul, Int64.reduceLT, Int32.reduceLT, Int32.reduceToInt, Nat.add_zero, Nat.zero_add, Nat.le_refl, eq_self, implies_true, ne_eq, h1]
    rw [e, fB_nil (by decide)]
  | succ m ih =>
    intro i s hi h0
    have h1 : i < 48 := by rw [lt32]; simp only [Int32.reduceToInt]; omega
    have h2 : (i + 1).toInt = i.toInt + 1 := ia (by simp only [Int32.reduceToInt]; omega) (by simp only [Int32.reduceToInt]; omega)
    have h4 : (i + 1).toNatClampNeg = i.toNatClampNeg + 1 := by rw [cln, cln]; omega
    have hb : 0 ≤ i.toInt ∧ i.toInt < 48 := by omega
    rw [← fB_step (by rw [cln]; omega), ← h4, ← ih (i + 1) _ (by omega) (by omega), w29_2]
    simp +decide only [w29_3, w29_5, w29_8, w29_9, w29_12, w29_13, w29_14, w29_15, w29_18, zr_z0, zr_uI, zr_uJ, isO_put, isOw_put, put_fst, okv_int, okv_long, okv_ref, okv_bool, okv_byte, cat1_unset, cat1_int, cat1_ref, cs_nil, cs_int, cs_ref, cs_long, cmpL_lt, cmpL_gt, cmpL_eq, sI_uI, sI_uJ, sI_uA, sI_uB, sJ_uI, sJ_uJ, sJ_uA, sJ_uB, sA_uI, sA_uJ, sA_uA, sA_uB, sB_uI, sB_uJ, sB_uA, sB_uB, sI_fA, sJ_fA, sA_fA, sB_fA, sI_z0, sJ_z0, sA_z0, sB_z0, Option.toList_some, Option.toList_none, List.cons_append, List.nil_append, true_and, and_true, false_and, and_false, or_false, false_or, or_true, true_or, not_true_eq_false, not_false_eq_true, ↓reduceIte, Nat.reduceAdd, Nat.reduceLeDiff, Nat.reduceEqDiff, Nat.reduceSub, Int32.reduceAdd, Int32.reduceSub, Int32.reduceMul, Int32.reduceToNatClampNeg, Int64.reduceAdd, Int64.reduceSub, Int64.reduceMul, Int64.reduceLT, Int32.reduceLT, Int32.reduceToInt, Nat.add_zero, Nat.zero_add, Nat.le_refl, eq_self, implies_true, ne_eq, g0, s0, g1, s1, g2, g3, s3, g4, g5, g6, s6, g7, s7, g8, s8, g9, s9, g10, s10, g11, s11, g12, s12, g13, s13, g14, g15, g16, g17, g18, g19, g20, g21, g22, g23, g24, g25, g26, s26, g27, s27, ai1, aw1, ae1, as1, ai2, aw2, ae2, as2, ai3, aw3, ae3, as3, ai4, aw4, ae4, as4, ai5, aw5, ae5, as5, ai6, aw6, ae6, as6, ai7, aw7, ae7, as7, ai8, aw8, ae8, as8, ai9, aw9, ae9, as9, ai10, aw10, ae10, as10, ai11, aw11, ae11, as11, ai12, aw12, ae12, as12, ai13, aw13, ae13, as13, ai14, aw14, ae14, as14, ai15, aw15, ae15, as15, h1, hb]
theorem l29_23 (m : Nat) : ∀ (i : Int32) (s : St), i.toInt = 40 - m → 0 ≤ i.toInt → (W (pj lw) 29 23 [.val (.ref p), .val (.int i), .unset, .unset, .unset, .unset, .unset, .unset] [] k n (ob H p s) Q ↔ W (pj lw) 29 42 [.val (.ref p), .val (.int 40), .unset, .unset, .unset, .unset, .unset, .unset] [] k n (ob H p (fB s 10 i.toNatClampNeg 40 0)) Q) := by
  induction m with
  | zero =>
    intro i s hi h0
    have h1 : ¬ i < 40 := by rw [lt32]; simp only [Int32.reduceToInt]; omega
    have e : i = 40 := by rw [eq32]; simp only [Int32.reduceToInt]; omega
    rw [w29_23]; simp +decide only [w29_24, w29_26, w29_29, w29_30, w29_33, w29_34, w29_35, w29_36, w29_39, zr_z0, zr_uI, zr_uJ, isO_put, isOw_put, put_fst, okv_int, okv_long, okv_ref, okv_bool, okv_byte, cat1_unset, cat1_int, cat1_ref, cs_nil, cs_int, cs_ref, cs_long, cmpL_lt, cmpL_gt, cmpL_eq, sI_uI, sI_uJ, sI_uA, sI_uB, sJ_uI, sJ_uJ, sJ_uA, sJ_uB, sA_uI, sA_uJ, sA_uA, sA_uB, sB_uI, sB_uJ, sB_uA, sB_uB, sI_fA, sJ_fA, sA_fA, sB_fA, sI_z0, sJ_z0, sA_z0, sB_z0, Option.toList_some, Option.toList_none, List.cons_append, List.nil_append, true_and, and_true, false_and, and_false, or_false, false_or, or_true, true_or, not_true_eq_false, not_false_eq_true, ↓reduceIte, Nat.reduceAdd, Nat.reduceLeDiff, Nat.reduceEqDiff, Nat.reduceSub, Int32.reduceAdd, Int32.reduceSub, Int32.reduceMul, Int32.reduceToNatClampNeg, Int64.reduceAdd, Int64.reduceSub, Int64.reduceMul, Int64.reduceLT, Int32.reduceLT, Int32.reduceToInt, Nat.add_zero, Nat.zero_add, Nat.le_refl, eq_self, implies_true, ne_eq, h1]
    rw [e, fB_nil (by decide)]
  | succ m ih =>
    intro i s hi h0
    have h1 : i < 40 := by rw [lt32]; simp only [Int32.reduceToInt]; omega
    have h2 : (i + 1).toInt = i.toInt + 1 := ia (by simp only [Int32.reduceToInt]; omega) (by simp only [Int32.reduceToInt]; omega)
    have h4 : (i + 1).toNatClampNeg = i.toNatClampNeg + 1 := by rw [cln, cln]; omega
    have hb : 0 ≤ i.toInt ∧ i.toInt < 40 := by omega
    rw [← fB_step (by rw [cln]; omega), ← h4, ← ih (i + 1) _ (by omega) (by omega), w29_23]
    simp +decide only [w29_24, w29_26, w29_29, w29_30, w29_33, w29_34, w29_35, w29_36, w29_39, zr_z0, zr_uI, zr_uJ, isO_put, isOw_put, put_fst, okv_int, okv_long, okv_ref, okv_bool, okv_byte, cat1_unset, cat1_int, cat1_ref, cs_nil, cs_int, cs_ref, cs_long, cmpL_lt, cmpL_gt, cmpL_eq, sI_uI, sI_uJ, sI_uA, sI_uB, sJ_uI, sJ_uJ, sJ_uA, sJ_uB, sA_uI, sA_uJ, sA_uA, sA_uB, sB_uI, sB_uJ, sB_uA, sB_uB, sI_fA, sJ_fA, sA_fA, sB_fA, sI_z0, sJ_z0, sA_z0, sB_z0, Option.toList_some, Option.toList_none, List.cons_append, List.nil_append, true_and, and_true, false_and, and_false, or_false, false_or, or_true, true_or, not_true_eq_false, not_false_eq_true, ↓reduceIte, Nat.reduceAdd, Nat.reduceLeDiff, Nat.reduceEqDiff, Nat.reduceSub, Int32.reduceAdd, Int32.reduceSub, Int32.reduceMul, Int32.reduceToNatClampNeg, Int64.reduceAdd, Int64.reduceSub, Int64.reduceMul, Int64.reduceLT, Int32.reduceLT, Int32.reduceToInt, Nat.add_zero, Nat.zero_add, Nat.le_refl, eq_self, implies_true, ne_eq, g0, s0, g1, s1, g2, g3, s3, g4, g5, g6, s6, g7, s7, g8, s8, g9, s9, g10, s10, g11, s11, g12, s12, g13, s13, g14, g15, g16, g17, g18, g19, g20, g21, g22, g23, g24, g25, g26, s26, g27, s27, ai1, aw1, ae1, as1, ai2, aw2, ae2, as2, ai3, aw3, ae3, as3, ai4, aw4, ae4, as4, ai5, aw5, ae5, as5, ai6, aw6, ae6, as6, ai7, aw7, ae7, as7, ai8, aw8, ae8, as8, ai9, aw9, ae9, as9, ai10, aw10, ae10, as10, ai11, aw11, ae11, as11, ai12, aw12, ae12, as12, ai13, aw13, ae13, as13, ai14, aw14, ae14, as14, ai15, aw15, ae15, as15, h1, hb]
theorem l29_44 (m : Nat) : ∀ (i : Int32) (s : St), i.toInt = 6 - m → 0 ≤ i.toInt → (W (pj lw) 29 44 [.val (.ref p), .val (.int i), .unset, .unset, .unset, .unset, .unset, .unset] [] k n (ob H p s) Q ↔ W (pj lw) 29 63 [.val (.ref p), .val (.int 6), .unset, .unset, .unset, .unset, .unset, .unset] [] k n (ob H p (fA s 6 i.toNatClampNeg 6 0)) Q) := by
  induction m with
  | zero =>
    intro i s hi h0
    have h1 : ¬ i < 6 := by rw [lt32]; simp only [Int32.reduceToInt]; omega
    have e : i = 6 := by rw [eq32]; simp only [Int32.reduceToInt]; omega
    rw [w29_44]; simp +decide only [w29_45, w29_47, w29_50, w29_51, w29_54, w29_55, w29_56, w29_57, w29_60, zr_z0, zr_uI, zr_uJ, isO_put, isOw_put, put_fst, okv_int, okv_long, okv_ref, okv_bool, okv_byte, cat1_unset, cat1_int, cat1_ref, cs_nil, cs_int, cs_ref, cs_long, cmpL_lt, cmpL_gt, cmpL_eq, sI_uI, sI_uJ, sI_uA, sI_uB, sJ_uI, sJ_uJ, sJ_uA, sJ_uB, sA_uI, sA_uJ, sA_uA, sA_uB, sB_uI, sB_uJ, sB_uA, sB_uB, sI_fA, sJ_fA, sA_fA, sB_fA, sI_z0, sJ_z0, sA_z0, sB_z0, Option.toList_some, Option.toList_none, List.cons_append, List.nil_append, true_and, and_true, false_and, and_false, or_false, false_or, or_true, true_or, not_true_eq_false, not_false_eq_true, ↓reduceIte, Nat.reduceAdd, Nat.reduceLeDiff, Nat.reduceEqDiff, Nat.reduceSub, Int32.reduceAdd, Int32.reduceSub, Int32.reduceMul, Int32.reduceToNatClampNeg, Int64.reduceAdd, Int64.reduceSub, Int64.reduceMul, Int64.reduceLT, Int32.reduceLT, Int32.reduceToInt, Nat.add_zero, Nat.zero_add, Nat.le_refl, eq_self, implies_true, ne_eq, h1]
    rw [e, fA_nil (by decide)]
  | succ m ih =>
    intro i s hi h0
    have h1 : i < 6 := by rw [lt32]; simp only [Int32.reduceToInt]; omega
    have h2 : (i + 1).toInt = i.toInt + 1 := ia (by simp only [Int32.reduceToInt]; omega) (by simp only [Int32.reduceToInt]; omega)
    have h4 : (i + 1).toNatClampNeg = i.toNatClampNeg + 1 := by rw [cln, cln]; omega
    have hb : 0 ≤ i.toInt ∧ i.toInt < 6 := by omega
    rw [← fA_step (by rw [cln]; omega), ← h4, ← ih (i + 1) _ (by omega) (by omega), w29_44]
    simp +decide only [w29_45, w29_47, w29_50, w29_51, w29_54, w29_55, w29_56, w29_57, w29_60, zr_z0, zr_uI, zr_uJ, isO_put, isOw_put, put_fst, okv_int, okv_long, okv_ref, okv_bool, okv_byte, cat1_unset, cat1_int, cat1_ref, cs_nil, cs_int, cs_ref, cs_long, cmpL_lt, cmpL_gt, cmpL_eq, sI_uI, sI_uJ, sI_uA, sI_uB, sJ_uI, sJ_uJ, sJ_uA, sJ_uB, sA_uI, sA_uJ, sA_uA, sA_uB, sB_uI, sB_uJ, sB_uA, sB_uB, sI_fA, sJ_fA, sA_fA, sB_fA, sI_z0, sJ_z0, sA_z0, sB_z0, Option.toList_some, Option.toList_none, List.cons_append, List.nil_append, true_and, and_true, false_and, and_false, or_false, false_or, or_true, true_or, not_true_eq_false, not_false_eq_true, ↓reduceIte, Nat.reduceAdd, Nat.reduceLeDiff, Nat.reduceEqDiff, Nat.reduceSub, Int32.reduceAdd, Int32.reduceSub, Int32.reduceMul, Int32.reduceToNatClampNeg, Int64.reduceAdd, Int64.reduceSub, Int64.reduceMul, Int64.reduceLT, Int32.reduceLT, Int32.reduceToInt, Nat.add_zero, Nat.zero_add, Nat.le_refl, eq_self, implies_true, ne_eq, g0, s0, g1, s1, g2, g3, s3, g4, g5, g6, s6, g7, s7, g8, s8, g9, s9, g10, s10, g11, s11, g12, s12, g13, s13, g14, g15, g16, g17, g18, g19, g20, g21, g22, g23, g24, g25, g26, s26, g27, s27, ai1, aw1, ae1, as1, ai2, aw2, ae2, as2, ai3, aw3, ae3, as3, ai4, aw4, ae4, as4, ai5, aw5, ae5, as5, ai6, aw6, ae6, as6, ai7, aw7, ae7, as7, ai8, aw8, ae8, as8, ai9, aw9, ae9, as9, ai10, aw10, ae10, as10, ai11, aw11, ae11, as11, ai12, aw12, ae12, as12, ai13, aw13, ae13, as13, ai14, aw14, ae14, as14, ai15, aw15, ae15, as15, h1, hb]
def fBB (s : St) (lo : Nat) : St := fB (fB s 11 lo 54 0) 12 lo 54 0
theorem fBB_step {lo : Nat} (h : lo < 54) : fBB (uB (uB s 11 lo 0) 12 lo 0) (lo + 1) = fBB s lo := by
  unfold fBB
  refine St_ext (fun k => by simp only [sI_fB, sI_uB]) (fun k => by simp only [sJ_fB, sJ_uB]) (fun t' i => by simp only [sA_fB, sA_uB]) (fun t' i => ?_)
  simp only [sB_fB, sB_uB]
  by_cases g : t' = 12
  · subst g; simp only [true_and, false_and, Nat.reduceEqDiff, if_false]
    by_cases q : lo ≤ i ∧ i < 54
    · rw [if_pos q]; split
      · rfl
      · rw [if_pos (by omega)]
    · rw [if_neg q, if_neg (by omega), if_neg (by omega)]
  · simp only [eq_false g, false_and, if_false]
    by_cases g2 : t' = 11
    · subst g2; simp only [true_and]
      by_cases q : lo ≤ i ∧ i < 54
      · rw [if_pos q]; split
        · rfl
        · rw [if_pos (by omega)]
      · rw [if_neg q, if_neg (by omega), if_neg (by omega)]
    · simp only [eq_false g2, false_and, if_false]
theorem l37_2 (m : Nat) : ∀ (i : Int32) (s : St), i.toInt = 54 - m → 0 ≤ i.toInt → (W (pj lw) 37 2 [.val (.ref p), .val (.int i), .unset, .unset, .unset] [] k n (ob H p s) Q ↔ W (pj lw) 37 28 [.val (.ref p), .val (.int 54), .unset, .unset, .unset] [] k n (ob H p (fBB s i.toNatClampNeg)) Q) := by
  induction m with
  | zero =>
    intro i s hi h0
    have h1 : ¬ i < 54 := by rw [lt32]; simp only [Int32.reduceToInt]; omega
    have e : i = 54 := by rw [eq32]; simp only [Int32.reduceToInt]; omega
    rw [w37_2]; simp +decide only [w37_3, w37_5, w37_8, w37_9, w37_12, w37_13, w37_14, w37_15, w37_16, w37_19, w37_20, w37_21, w37_22, w37_25, zr_z0, zr_uI, zr_uJ, isO_put, isOw_put, put_fst, okv_int, okv_long, okv_ref, okv_bool, okv_byte, cat1_unset, cat1_int, cat1_ref, cs_nil, cs_int, cs_ref, cs_long, cmpL_lt, cmpL_gt, cmpL_eq, sI_uI, sI_uJ, sI_uA, sI_uB, sJ_uI, sJ_uJ, sJ_uA, sJ_uB, sA_uI, sA_uJ, sA_uA, sA_uB, sB_uI, sB_uJ, sB_uA, sB_uB, sI_fA, sJ_fA, sA_fA, sB_fA, sI_z0, sJ_z0, sA_z0, sB_z0, Option.toList_some, Option.toList_none, List.cons_append, List.nil_append, true_and, and_true, false_and, and_false, or_false, false_or, or_true, true_or, not_true_eq_false, not_false_eq_true, ↓reduceIte, Nat.reduceAdd, Nat.reduceLeDiff, Nat.reduceEqDiff, Nat.reduceSub, Int32.reduceAdd, Int32.reduceSub, Int32.reduceMul, Int32.reduceToNatClampNeg, Int64.reduceAdd, Int64.reduceSub, Int64.reduceMul, Int64.reduceLT, Int32.reduceLT, Int32.reduceToInt, Nat.add_zero, Nat.zero_add, Nat.le_refl, eq_self, implies_true, ne_eq, h1]
    rw [e, fBB, fB_nil (by decide), fB_nil (by decide)]
  | succ m ih =>
    intro i s hi h0
    have h1 : i < 54 := by rw [lt32]; simp only [Int32.reduceToInt]; omega
    have h2 : (i + 1).toInt = i.toInt + 1 := ia (by simp only [Int32.reduceToInt]; omega) (by simp only [Int32.reduceToInt]; omega)
    have h4 : (i + 1).toNatClampNeg = i.toNatClampNeg + 1 := by rw [cln, cln]; omega
    have hb : 0 ≤ i.toInt ∧ i.toInt < 54 := by omega
    rw [← fBB_step (by rw [cln]; omega), ← h4, ← ih (i + 1) _ (by omega) (by omega), w37_2]
    simp +decide only [w37_3, w37_5, w37_8, w37_9, w37_12, w37_13, w37_14, w37_15, w37_16, w37_19, w37_20, w37_21, w37_22, w37_25, zr_z0, zr_uI, zr_uJ, isO_put, isOw_put, put_fst, okv_int, okv_long, okv_ref, okv_bool, okv_byte, cat1_unset, cat1_int, cat1_ref, cs_nil, cs_int, cs_ref, cs_long, cmpL_lt, cmpL_gt, cmpL_eq, sI_uI, sI_uJ, sI_uA, sI_uB, sJ_uI, sJ_uJ, sJ_uA, sJ_uB, sA_uI, sA_uJ, sA_uA, sA_uB, sB_uI, sB_uJ, sB_uA, sB_uB, sI_fA, sJ_fA, sA_fA, sB_fA, sI_z0, sJ_z0, sA_z0, sB_z0, Option.toList_some, Option.toList_none, List.cons_append, List.nil_append, true_and, and_true, false_and, and_false, or_false, false_or, or_true, true_or, not_true_eq_false, not_false_eq_true, ↓reduceIte, Nat.reduceAdd, Nat.reduceLeDiff, Nat.reduceEqDiff, Nat.reduceSub, Int32.reduceAdd, Int32.reduceSub, Int32.reduceMul, Int32.reduceToNatClampNeg, Int64.reduceAdd, Int64.reduceSub, Int64.reduceMul, Int64.reduceLT, Int32.reduceLT, Int32.reduceToInt, Nat.add_zero, Nat.zero_add, Nat.le_refl, eq_self, implies_true, ne_eq, g0, s0, g1, s1, g2, g3, s3, g4, g5, g6, s6, g7, s7, g8, s8, g9, s9, g10, s10, g11, s11, g12, s12, g13, s13, g14, g15, g16, g17, g18, g19, g20, g21, g22, g23, g24, g25, g26, s26, g27, s27, ai1, aw1, ae1, as1, ai2, aw2, ae2, as2, ai3, aw3, ae3, as3, ai4, aw4, ae4, as4, ai5, aw5, ae5, as5, ai6, aw6, ae6, as6, ai7, aw7, ae7, as7, ai8, aw8, ae8, as8, ai9, aw9, ae9, as9, ai10, aw10, ae10, as10, ai11, aw11, ae11, as11, ai12, aw12, ae12, as12, ai13, aw13, ae13, as13, ai14, aw14, ae14, as14, ai15, aw15, ae15, as15, h1, hb]
theorem l44_2 (m : Nat) : ∀ (i : Int32) (s : St), i.toInt = 54 - m → 0 ≤ i.toInt → (W (pj lw) 44 2 [.val (.ref p), .val (.int a), .val (.int b), .val (.int i), .unset, .unset] [] k n (ob H p s) Q ↔ W (pj lw) 44 21 [.val (.ref p), .val (.int a), .val (.int b), .val (.int 54), .unset, .unset] [] k n (ob H p (fB s 12 i.toNatClampNeg 54 0)) Q) := by
  induction m with
  | zero =>
    intro i s hi h0
    have h1 : ¬ i < 54 := by rw [lt32]; simp only [Int32.reduceToInt]; omega
    have e : i = 54 := by rw [eq32]; simp only [Int32.reduceToInt]; omega
    rw [w44_2]; simp +decide only [w44_3, w44_5, w44_8, w44_9, w44_12, w44_13, w44_14, w44_15, w44_18, zr_z0, zr_uI, zr_uJ, isO_put, isOw_put, put_fst, okv_int, okv_long, okv_ref, okv_bool, okv_byte, cat1_unset, cat1_int, cat1_ref, cs_nil, cs_int, cs_ref, cs_long, cmpL_lt, cmpL_gt, cmpL_eq, sI_uI, sI_uJ, sI_uA, sI_uB, sJ_uI, sJ_uJ, sJ_uA, sJ_uB, sA_uI, sA_uJ, sA_uA, sA_uB, sB_uI, sB_uJ, sB_uA, sB_uB, sI_fA, sJ_fA, sA_fA, sB_fA, sI_z0, sJ_z0, sA_z0, sB_z0, Option.toList_some, Option.toList_none, List.cons_append, List.nil_append, true_and, and_true, false_and, and_false, or_false, false_or, or_true, true_or, not_true_eq_false, not_false_eq_true, ↓reduceIte, Nat.reduceAdd, Nat.reduceLeDiff, Nat.reduceEqDiff, Nat.reduceSub, Int32.reduceAdd, Int32.reduceSub, Int32.reduceMul, Int32.reduceToNatClampNeg, Int64.reduceAdd, Int64.reduceSub, Int64.reduceMul, Int64.reduceLT, Int32.reduceLT, Int32.reduceToInt, Nat.add_zero, Nat.zero_add, Nat.le_refl, eq_self, implies_true, ne_eq, h1]
    rw [e, fB_nil (by decide)]
  | succ m ih =>
    intro i s hi h0
    have h1 : i < 54 := by rw [lt32]; simp only [Int32.reduceToInt]; omega
    have h2 : (i + 1).toInt = i.toInt + 1 := ia (by simp only [Int32.reduceToInt]; omega) (by simp only [Int32.reduceToInt]; omega)
    have h4 : (i + 1).toNatClampNeg = i.toNatClampNeg + 1 := by rw [cln, cln]; omega
    have hb : 0 ≤ i.toInt ∧ i.toInt < 54 := by omega
    rw [← fB_step (by rw [cln]; omega), ← h4, ← ih (i + 1) _ (by omega) (by omega), w44_2]
    simp +decide only [w44_3, w44_5, w44_8, w44_9, w44_12, w44_13, w44_14, w44_15, w44_18, zr_z0, zr_uI, zr_uJ, isO_put, isOw_put, put_fst, okv_int, okv_long, okv_ref, okv_bool, okv_byte, cat1_unset, cat1_int, cat1_ref, cs_nil, cs_int, cs_ref, cs_long, cmpL_lt, cmpL_gt, cmpL_eq, sI_uI, sI_uJ, sI_uA, sI_uB, sJ_uI, sJ_uJ, sJ_uA, sJ_uB, sA_uI, sA_uJ, sA_uA, sA_uB, sB_uI, sB_uJ, sB_uA, sB_uB, sI_fA, sJ_fA, sA_fA, sB_fA, sI_z0, sJ_z0, sA_z0, sB_z0, Option.toList_some, Option.toList_none, List.cons_append, List.nil_append, true_and, and_true, false_and, and_false, or_false, false_or, or_true, true_or, not_true_eq_false, not_false_eq_true, ↓reduceIte, Nat.reduceAdd, Nat.reduceLeDiff, Nat.reduceEqDiff, Nat.reduceSub, Int32.reduceAdd, Int32.reduceSub, Int32.reduceMul, Int32.reduceToNatClampNeg, Int64.reduceAdd, Int64.reduceSub, Int64.reduceMul, Int64.reduceLT, Int32.reduceLT, Int32.reduceToInt, Nat.add_zero, Nat.zero_add, Nat.le_refl, eq_self, implies_true, ne_eq, g0, s0, g1, s1, g2, g3, s3, g4, g5, g6, s6, g7, s7, g8, s8, g9, s9, g10, s10, g11, s11, g12, s12, g13, s13, g14, g15, g16, g17, g18, g19, g20, g21, g22, g23, g24, g25, g26, s26, g27, s27, ai1, aw1, ae1, as1, ai2, aw2, ae2, as2, ai3, aw3, ae3, as3, ai4, aw4, ae4, as4, ai5, aw5, ae5, as5, ai6, aw6, ae6, as6, ai7, aw7, ae7, as7, ai8, aw8, ae8, as8, ai9, aw9, ae9, as9, ai10, aw10, ae10, as10, ai11, aw11, ae11, as11, ai12, aw12, ae12, as12, ai13, aw13, ae13, as13, ai14, aw14, ae14, as14, ai15, aw15, ae15, as15, h1, hb]
end C

section D
variable {lw : LW} {H : AH} {p j : Nat} {s s' : St} {Q : Option Value → AH → Prop} {a b c d x y cx cy dp dq dr ds : Int32} {h : Nat → Cel} {k n : Nat}
def F3 (s : St) (cx cy dp dq dr ds : Int32) : Prop := F1 s cx cy dp dq dr ds ∧ (sI s 11 = 3 ∧ sI s 12 = 1 ∧ sI s 13 = 2) ∧ (sA s 4 0 = (cx - 65) * 27 ∧ sA s 4 1 = (cy - 65) * 27)
def F4 (s : St) (cx cy dp dq dr ds : Int32) : Prop := F3 s cx cy dp dq dr ds ∧ (sB s 9 0 = (dp - 48).toInt64 ∧ sB s 9 1 = (dq - 48).toInt64 ∧ sB s 9 8 = (dr - 48).toInt64 ∧ sB s 9 9 = 0 ∧ sB s 9 16 = 0 ∧ sB s 9 17 = (ds - 48).toInt64) ∧ (sA s 6 0 = 0 ∧ sA s 6 1 = 0 ∧ sA s 6 2 = 0)
set_option maxRecDepth 100000 in
set_option maxHeartbeats 4000000 in
theorem v29 (F : F3 s cx cy dp dq dr ds) (ux : (cx < 65) = False) (ux2 : (90 < cx) = False) (uy : (cy < 65) = False) (uy2 : (90 < cy) = False) (xd : (cx < 48) = False) (xd2 : (57 < cx) = True) (yd : (cy < 48) = False) (yd2 : (57 < cy) = True) (hne : ((cx - 65) * 27 = (cy - 65) * 27) = False) (hne' : ((cy - 65) * 27 = (cx - 65) * 27) = False) (p1 : (dp < 48) = False) (p2 : (57 < dp) = False) (p3 : (dp = 48) = False) (p4 : (dp < 97) = True) (q1 : (dq < 48) = False) (q2 : (57 < dq) = False) (q3 : (dq = 48) = False) (q4 : (dq < 97) = True) (r1 : (dr < 48) = False) (r2 : (57 < dr) = False) (r3 : (dr = 48) = False) (r4 : (dr < 97) = True) (z1 : (ds < 48) = False) (z2 : (57 < ds) = False) (z3 : (ds = 48) = False) (z4 : (ds < 97) = True) (hq : ∀ s', F4 s' cx cy dp dq dr ds → Q none (ob H p s')) : Cl (pj lw) 29 [.ref p] (ob H p s) Q := by
  obtain ⟨⟨⟨f3, f0, f1⟩, ⟨b0, b1, b2, b3, b4⟩, b5, b6, b7, b8, b9⟩, ⟨f11, f12, f13⟩, k0, k1⟩ := F
  rw [c29]
  simp +decide only [w29_0, w29_1, zr_z0, zr_uI, zr_uJ, isO_put, isOw_put, put_fst, okv_int, okv_long, okv_ref, okv_bool, okv_byte, cat1_unset, cat1_int, cat1_ref, cs_nil, cs_int, cs_ref, cs_long, cmpL_lt, cmpL_gt, cmpL_eq, sI_uI, sI_uJ, sI_uA, sI_uB, sJ_uI, sJ_uJ, sJ_uA, sJ_uB, sA_uI, sA_uJ, sA_uA, sA_uB, sB_uI, sB_uJ, sB_uA, sB_uB, sI_fA, sJ_fA, sA_fA, sB_fA, sI_z0, sJ_z0, sA_z0, sB_z0, Option.toList_some, Option.toList_none, List.cons_append, List.nil_append, true_and, and_true, false_and, and_false, or_false, false_or, or_true, true_or, not_true_eq_false, not_false_eq_true, ↓reduceIte, Nat.reduceAdd, Nat.reduceLeDiff, Nat.reduceEqDiff, Nat.reduceSub, Int32.reduceAdd, Int32.reduceSub, Int32.reduceMul, Int32.reduceToNatClampNeg, Int64.reduceAdd, Int64.reduceSub, Int64.reduceMul, Int64.reduceLT, Int32.reduceLT, Int32.reduceToInt, Nat.add_zero, Nat.zero_add, Nat.le_refl, eq_self, implies_true, ne_eq]
  refine (l29_2 48 0 s (by decide) (by decide)).2 ?_
  simp +decide only [w29_21, w29_22i, zr_z0, zr_uI, zr_uJ, isO_put, isOw_put, put_fst, okv_int, okv_long, okv_ref, okv_bool, okv_byte, cat1_unset, cat1_int, cat1_ref, cs_nil, cs_int, cs_ref, cs_long, cmpL_lt, cmpL_gt, cmpL_eq, sI_uI, sI_uJ, sI_uA, sI_uB, sJ_uI, sJ_uJ, sJ_uA, sJ_uB, sA_uI, sA_uJ, sA_uA, sA_uB, sB_uI, sB_uJ, sB_uA, sB_uB, sI_fA, sJ_fA, sA_fA, sB_fA, sI_z0, sJ_z0, sA_z0, sB_z0, Option.toList_some, Option.toList_none, List.cons_append, List.nil_append, true_and, and_true, false_and, and_false, or_false, false_or, or_true, true_or, not_true_eq_false, not_false_eq_true, ↓reduceIte, Nat.reduceAdd, Nat.reduceLeDiff, Nat.reduceEqDiff, Nat.reduceSub, Int32.reduceAdd, Int32.reduceSub, Int32.reduceMul, Int32.reduceToNatClampNeg, Int64.reduceAdd, Int64.reduceSub, Int64.reduceMul, Int64.reduceLT, Int32.reduceLT, Int32.reduceToInt, Nat.add_zero, Nat.zero_add, Nat.le_refl, eq_self, implies_true, ne_eq]
  refine (l29_23 40 0 _ (by decide) (by decide)).2 ?_
  simp +decide only [w29_42, w29_43i, zr_z0, zr_uI, zr_uJ, isO_put, isOw_put, put_fst, okv_int, okv_long, okv_ref, okv_bool, okv_byte, cat1_unset, cat1_int, cat1_ref, cs_nil, cs_int, cs_ref, cs_long, cmpL_lt, cmpL_gt, cmpL_eq, sI_uI, sI_uJ, sI_uA, sI_uB, sJ_uI, sJ_uJ, sJ_uA, sJ_uB, sA_uI, sA_uJ, sA_uA, sA_uB, sB_uI, sB_uJ, sB_uA, sB_uB, sI_fA, sJ_fA, sA_fA, sB_fA, sI_z0, sJ_z0, sA_z0, sB_z0, Option.toList_some, Option.toList_none, List.cons_append, List.nil_append, true_and, and_true, false_and, and_false, or_false, false_or, or_true, true_or, not_true_eq_false, not_false_eq_true, ↓reduceIte, Nat.reduceAdd, Nat.reduceLeDiff, Nat.reduceEqDiff, Nat.reduceSub, Int32.reduceAdd, Int32.reduceSub, Int32.reduceMul, Int32.reduceToNatClampNeg, Int64.reduceAdd, Int64.reduceSub, Int64.reduceMul, Int64.reduceLT, Int32.reduceLT, Int32.reduceToInt, Nat.add_zero, Nat.zero_add, Nat.le_refl, eq_self, implies_true, ne_eq]
  refine (l29_44 6 0 _ (by decide) (by decide)).2 ?_
  simp +decide only [w29_63, w29_64i, w29_65, w29_66, w29_67, w29_68, w29_69, w29_70uu, w29_72, w29_73, w29_77, w29_79, w29_82, w29_83, w29_84, w29_87, w29_90, w29_91, w29_94, w29_95, w29_96i, w29_96, w29_98, w29_99, w29_101, w29_104, w29_107, w29_108, w29_109, w29_110, w29_113i, w29_114, w29_117, w29_119, w29_121, w29_124, w29_126, w29_128, w29_131, w29_132, w29_133, w29_136, w29_139, w29_142, w29_145, w29_147, w29_149, w29_152, w29_154, w29_156, w29_159, w29_160, w29_161, w29_176, w29_178, w29_180, w29_183, w29_184, w29_185, w29_187, w29_190, w29_191, w29_192, w29_193, w29_194, w29_197, w29_198j, w29_200, w29_201, w29_204i, w29_205, w29_208, w29_210, w29_212, w29_215, w29_216, w29_217, w29_225, w29_226, w29_227, w29_229, w29_232, w29_233j, w29_235, w29_238, w29_241, w29_244, w29_247, w29_248, w29_249, w29_251, w29_254, w29_75, c30, w30_0, w30_1, w30_4, w30_5, w30_6, w30_8, w30_9, w30_11, w30_12, w30_13, w30_14, w30_15, w30_16, w30_18, w30_20, w30_21, w30_24, w30_27, w30_28, w30_29, w30_32, w30_34, w30_35, w30_38, w30_41, w30_42, w30_43, w30_46, w30_48, w30_49, w30_51, w30_52, w30_53, w30_54, w30_55i, w30_56, w30_59, w30_60, w30_61, w30_64, w30_66, w30_67, w30_69, w30_72, w30_74, w30_76, w30_79, w30_80, w30_83, w30_84, w30_85, w30_88, w30_89, w30_92, w30_93, w30_95, w30_96, w30_98, w30_99, w30_100, w30_101, w30_103, w30_104, w30_105, w30_106, w30_107, w30_110, c33, w33_0, w33_1, w33_5, w33_7, w33_10, w33_11, w33_14, w33_15, w33_17, w33_20, w33_21, w33_24, w33_25, w33_27, w33_28, w33_30, w33_31, w33_32, w33_33, w33_34, w33_37, w33_39, w33_40, w33_41, w33_42, w33_43, w33_44, w33_45, w33_48, w33_50, w33_51, w33_52, w33_55, w33_58, c34, w34_0, w34_1, w34_4, w34_5, w34_6, w34_9, w34_12, w34_13, w34_14, w34_17, w34_18, w34_19, w34_22, w34_25, w34_26, w34_27, w34_30, w34_31, w34_32, w34_33, w34_36, w34_37, w34_38, w34_40, w34_41, w34_42, w34_43, w34_44, w34_45, w34_46, w34_47, w34_48, w34_51, w34_54, w34_55, w34_56, w34_59, w34_60, w34_61, w34_64, w34_67, w34_68, w34_70, w34_71, w34_72, w34_75, w34_76, w34_77, w34_79, w34_80, w34_81i, w34_82, w34_85, w34_86, w34_87, w34_90, w34_91, c35, w35_0, w35_1, w35_3, w35_4, w35_7, w35_10, w35_11, w35_13, w35_16, w35_17, w35_20, w35_21, w35_22, w35_23, w35_26, w35_27, w35_28, w35_31, w35_34, w35_35, w33_3, w35_2, zr_z0, zr_uI, zr_uJ, isO_put, isOw_put, put_fst, okv_int, okv_long, okv_ref, okv_bool, okv_byte, cat1_unset, cat1_int, cat1_ref, cs_nil, cs_int, cs_ref, cs_long, cmpL_lt, cmpL_gt, cmpL_eq, sI_uI, sI_uJ, sI_uA, sI_uB, sJ_uI, sJ_uJ, sJ_uA, sJ_uB, sA_uI, sA_uJ, sA_uA, sA_uB, sB_uI, sB_uJ, sB_uA, sB_uB, sI_fA, sJ_fA, sA_fA, sB_fA, sI_z0, sJ_z0, sA_z0, sB_z0, Option.toList_some, Option.toList_none, List.cons_append, List.nil_append, true_and, and_true, false_and, and_false, or_false, false_or, or_true, true_or, not_true_eq_false, not_false_eq_true, ↓reduceIte, Nat.reduceAdd, Nat.reduceLeDiff, Nat.reduceEqDiff, Nat.reduceSub, Int32.reduceAdd, Int32.reduceSub, Int32.reduceMul, Int32.reduceToNatClampNeg, Int64.reduceAdd, Int64.reduceSub, Int64.reduceMul, Int64.reduceLT, Int32.reduceLT, Int32.reduceToInt, Nat.add_zero, Nat.zero_add, Nat.le_refl, eq_self, implies_true, ne_eq, g0, s0, g1, s1, g2, g3, s3, g4, g5, g6, s6, g7, s7, g8, s8, g9, s9, g10, s10, g11, s11, g12, s12, g13, s13, g14, g15, g16, g17, g18, g19, g20, g21, g22, g23, g24, g25, g26, s26, g27, s27, ai1, aw1, ae1, as1, ai2, aw2, ae2, as2, ai3, aw3, ae3, as3, ai4, aw4, ae4, as4, ai5, aw5, ae5, as5, ai6, aw6, ae6, as6, ai7, aw7, ae7, as7, ai8, aw8, ae8, as8, ai9, aw9, ae9, as9, ai10, aw10, ae10, as10, ai11, aw11, ae11, as11, ai12, aw12, ae12, as12, ai13, aw13, ae13, as13, ai14, aw14, ae14, as14, ai15, aw15, ae15, as15, sI_fB, sJ_fB, sA_fB, sB_fB, t20, t21, t22, rgc, bz, f3, f13, k0, k1, b0, b1, b2, b3, b4, b5, b6, b7, b8, b9, ux, ux2, uy, uy2, xd, xd2, yd, yd2, hne, hne', p1, p2, p3, p4, q1, q2, q3, q4, r1, r2, r3, r4, z1, z2, z3, z4, Int64.zero_add, Int64.mul_one]
  refine hq _ ⟨⟨⟨⟨?_, ?_, ?_⟩, ⟨?_, ?_, ?_, ?_, ?_⟩, ?_, ?_, ?_, ?_, ?_⟩, ⟨?_, ?_, ?_⟩, ?_, ?_⟩, ⟨?_, ?_, ?_, ?_, ?_, ?_⟩, ?_, ?_, ?_⟩ <;> simp +decide only [zr_z0, zr_uI, zr_uJ, isO_put, isOw_put, put_fst, okv_int, okv_long, okv_ref, okv_bool, okv_byte, cat1_unset, cat1_int, cat1_ref, cs_nil, cs_int, cs_ref, cs_long, cmpL_lt, cmpL_gt, cmpL_eq, sI_uI, sI_uJ, sI_uA, sI_uB, sJ_uI, sJ_uJ, sJ_uA, sJ_uB, sA_uI, sA_uJ, sA_uA, sA_uB, sB_uI, sB_uJ, sB_uA, sB_uB, sI_fA, sJ_fA, sA_fA, sB_fA, sI_z0, sJ_z0, sA_z0, sB_z0, Option.toList_some, Option.toList_none, List.cons_append, List.nil_append, true_and, and_true, false_and, and_false, or_false, false_or, or_true, true_or, not_true_eq_false, not_false_eq_true, ↓reduceIte, Nat.reduceAdd, Nat.reduceLeDiff, Nat.reduceEqDiff, Nat.reduceSub, Int32.reduceAdd, Int32.reduceSub, Int32.reduceMul, Int32.reduceToNatClampNeg, Int64.reduceAdd, Int64.reduceSub, Int64.reduceMul, Int64.reduceLT, Int32.reduceLT, Int32.reduceToInt, Nat.add_zero, Nat.zero_add, Nat.le_refl, eq_self, implies_true, ne_eq, sI_fB, sJ_fB, sA_fB, sB_fB, Int64.zero_add, Int64.mul_one, f3, f0, f1, f11, f12, f13, k0, k1, b0, b1, b2, b3, b4, b5, b6, b7, b8, b9]
end D

section E
variable {lw : LW} {H : AH} {p j : Nat} {s s' : St} {Q : Option Value → AH → Prop} {a b c d x y cx cy dp dq dr ds dP dQ dR dS : Int32} {A B C D : Int64} {h : Nat → Cel} {k n : Nat}
theorem i32_64 : x.toInt64.toInt32 = x := by rw [eq32]; simp
theorem z32 : (0 : Int64).toInt32 = 0 := by decide
theorem z64 : (0 : Int32).toInt64 = 0 := by decide
theorem n64 : -(0 : Int64) = 0 := by decide
def G0 (s : St) (kx ky : Int32) : Prop := (sI s 11 = 3 ∧ sI s 12 = 1 ∧ sI s 13 = 2) ∧ (sA s 4 0 = kx ∧ sA s 4 1 = ky)
def G1 (s : St) (dP dQ dR dS : Int32) : Prop := sA s 5 0 = dP ∧ sA s 5 1 = dQ ∧ sA s 5 8 = dR ∧ sA s 5 9 = 0 ∧ sA s 5 16 = 0 ∧ sA s 5 17 = dS
set_option maxRecDepth 100000 in
set_option maxHeartbeats 4000000 in
theorem v36 (F : F4 s cx cy dp dq dr ds) (h1 : (24 < (dp - 48).toInt64) = False) (h2 : (24 < (dq - 48).toInt64) = False) (h3 : (24 < (dr - 48).toInt64) = False) (h4 : (24 < (ds - 48).toInt64) = False)
    (hq : ∀ s', G0 s' ((cx - 65) * 27) ((cy - 65) * 27) → G1 s' (dp - 48) (dq - 48) (dr - 48) (ds - 48) → (sA s' 6 0 = 0 ∧ sA s' 6 1 = 0 ∧ sA s' 6 2 = 0) → Q (some (.int 1)) (ob H p s')) : Cl (pj lw) 36 [.ref p] (ob H p s) Q := by
  obtain ⟨⟨⟨⟨f3, f0, f1⟩, ⟨b0, b1, b2, b3, b4⟩, b5, b6, b7, b8, b9⟩, ⟨f11, f12, f13⟩, k0, k1⟩, ⟨m0, m1, m2, m3, m4, m5⟩, w0, w1, w2⟩ := F
  rw [c36]
  simp +decide only [w36_0, w36_1, w36_3, w36_5, w36_8, w36_9i, w36_9, w36_11, w36_13, w36_16, w36_17, w36_20, w36_21, w36_23, w36_24, w36_25, w36_26, w36_27j, w36_27uu, w36_28, w36_29, w36_30, w36_33, w36_36, w36_37, w36_38, w36_41, w36_44, w36_45, w36_48, w36_49, w36_52, w36_53, w36_54, w36_55, w36_58, w36_59, w36_61, w36_62, w36_63, w36_64, w36_65, w36_66, w36_69, w36_72, w36_73, w36_74, w36_77, w36_80, w36_81, w36_82, w36_85, w36_86, w36_87, w36_90, w36_93, w36_96, w36_99, w36_100, w36_2, w36_10, zr_z0, zr_uI, zr_uJ, isO_put, isOw_put, put_fst, okv_int, okv_long, okv_ref, okv_bool, okv_byte, cat1_unset, cat1_int, cat1_ref, cs_nil, cs_int, cs_ref, cs_long, cmpL_lt, cmpL_gt, cmpL_eq, sI_uI, sI_uJ, sI_uA, sI_uB, sJ_uI, sJ_uJ, sJ_uA, sJ_uB, sA_uI, sA_uJ, sA_uA, sA_uB, sB_uI, sB_uJ, sB_uA, sB_uB, sI_fA, sJ_fA, sA_fA, sB_fA, sI_z0, sJ_z0, sA_z0, sB_z0, Option.toList_some, Option.toList_none, List.cons_append, List.nil_append, true_and, and_true, false_and, and_false, or_false, false_or, or_true, true_or, not_true_eq_false, not_false_eq_true, ↓reduceIte, Nat.reduceAdd, Nat.reduceLeDiff, Nat.reduceEqDiff, Nat.reduceSub, Int32.reduceAdd, Int32.reduceSub, Int32.reduceMul, Int32.reduceToNatClampNeg, Int64.reduceAdd, Int64.reduceSub, Int64.reduceMul, Int64.reduceLT, Int32.reduceLT, Int32.reduceToInt, Nat.add_zero, Nat.zero_add, Nat.le_refl, eq_self, implies_true, ne_eq, g0, s0, g1, s1, g2, g3, s3, g4, g5, g6, s6, g7, s7, g8, s8, g9, s9, g10, s10, g11, s11, g12, s12, g13, s13, g14, g15, g16, g17, g18, g19, g20, g21, g22, g23, g24, g25, g26, s26, g27, s27, ai1, aw1, ae1, as1, ai2, aw2, ae2, as2, ai3, aw3, ae3, as3, ai4, aw4, ae4, as4, ai5, aw5, ae5, as5, ai6, aw6, ae6, as6, ai7, aw7, ae7, as7, ai8, aw8, ae8, as8, ai9, aw9, ae9, as9, ai10, aw10, ae10, as10, ai11, aw11, ae11, as11, ai12, aw12, ae12, as12, ai13, aw13, ae13, as13, ai14, aw14, ae14, as14, ai15, aw15, ae15, as15, f11, f13, m0, m1, m2, m3, m4, m5, h1, h2, h3, h4, i32_64, z32]
  refine hq _ ⟨⟨?_, ?_, ?_⟩, ?_, ?_⟩ ⟨?_, ?_, ?_, ?_, ?_, ?_⟩ ⟨?_, ?_, ?_⟩ <;> simp +decide only [zr_z0, zr_uI, zr_uJ, isO_put, isOw_put, put_fst, okv_int, okv_long, okv_ref, okv_bool, okv_byte, cat1_unset, cat1_int, cat1_ref, cs_nil, cs_int, cs_ref, cs_long, cmpL_lt, cmpL_gt, cmpL_eq, sI_uI, sI_uJ, sI_uA, sI_uB, sJ_uI, sJ_uJ, sJ_uA, sJ_uB, sA_uI, sA_uJ, sA_uA, sA_uB, sB_uI, sB_uJ, sB_uA, sB_uB, sI_fA, sJ_fA, sA_fA, sB_fA, sI_z0, sJ_z0, sA_z0, sB_z0, Option.toList_some, Option.toList_none, List.cons_append, List.nil_append, true_and, and_true, false_and, and_false, or_false, false_or, or_true, true_or, not_true_eq_false, not_false_eq_true, ↓reduceIte, Nat.reduceAdd, Nat.reduceLeDiff, Nat.reduceEqDiff, Nat.reduceSub, Int32.reduceAdd, Int32.reduceSub, Int32.reduceMul, Int32.reduceToNatClampNeg, Int64.reduceAdd, Int64.reduceSub, Int64.reduceMul, Int64.reduceLT, Int32.reduceLT, Int32.reduceToInt, Nat.add_zero, Nat.zero_add, Nat.le_refl, eq_self, implies_true, ne_eq, f11, f12, f13, k0, k1, w0, w1, w2, i32_64, z32]
def G2 (s : St) (A B C D : Int64) : Prop := (sB s 11 0 = A ∧ sB s 11 1 = -C ∧ sB s 11 2 = 0) ∧ (sB s 11 6 = B ∧ sB s 11 7 = 0 ∧ sB s 11 8 = -D)
def G3 (s : St) (A B C D : Int64) : Prop := (sB s 12 0 = A ∧ sB s 12 1 = -C ∧ sB s 12 2 = 0) ∧ (sB s 12 6 = B ∧ sB s 12 7 = 0 ∧ sB s 12 8 = -D) ∧ (sB s 12 12 = 0 ∧ sB s 12 13 = 0 ∧ sB s 12 14 = 0) ∧ (sB s 12 3 = 0 ∧ sB s 12 4 = 0 ∧ sB s 12 5 = 0) ∧ (sB s 12 9 = 0 ∧ sB s 12 10 = 0 ∧ sB s 12 11 = 0) ∧ (sB s 12 15 = 0 ∧ sB s 12 16 = 0 ∧ sB s 12 17 = 0)
set_option maxRecDepth 100000 in
set_option maxHeartbeats 4000000 in
theorem v37 (F : G0 s x y) (G : G1 s dP dQ dR dS) (hc : sA s 6 0 = 0 ∧ sA s 6 1 = 0 ∧ sA s 6 2 = 0)
    (hq : ∀ s', G0 s' x y → G1 s' dP dQ dR dS → G2 s' dP.toInt64 dQ.toInt64 dR.toInt64 dS.toInt64 → G3 s' dP.toInt64 dQ.toInt64 dR.toInt64 dS.toInt64 → (sA s' 6 0 = 0 ∧ sA s' 6 1 = 0 ∧ sA s' 6 2 = 0) → Q none (ob H p s')) : Cl (pj lw) 37 [.ref p] (ob H p s) Q := by
  obtain ⟨⟨f11, f12, f13⟩, k0, k1⟩ := F
  obtain ⟨m0, m1, m2, m3, m4, m5⟩ := G
  obtain ⟨w0, w1, w2⟩ := hc
  rw [c37]
  simp +decide only [w37_0, w37_1, zr_z0, zr_uI, zr_uJ, isO_put, isOw_put, put_fst, okv_int, okv_long, okv_ref, okv_bool, okv_byte, cat1_unset, cat1_int, cat1_ref, cs_nil, cs_int, cs_ref, cs_long, cmpL_lt, cmpL_gt, cmpL_eq, sI_uI, sI_uJ, sI_uA, sI_uB, sJ_uI, sJ_uJ, sJ_uA, sJ_uB, sA_uI, sA_uJ, sA_uA, sA_uB, sB_uI, sB_uJ, sB_uA, sB_uB, sI_fA, sJ_fA, sA_fA, sB_fA, sI_z0, sJ_z0, sA_z0, sB_z0, Option.toList_some, Option.toList_none, List.cons_append, List.nil_append, true_and, and_true, false_and, and_false, or_false, false_or, or_true, true_or, not_true_eq_false, not_false_eq_true, ↓reduceIte, Nat.reduceAdd, Nat.reduceLeDiff, Nat.reduceEqDiff, Nat.reduceSub, Int32.reduceAdd, Int32.reduceSub, Int32.reduceMul, Int32.reduceToNatClampNeg, Int64.reduceAdd, Int64.reduceSub, Int64.reduceMul, Int64.reduceLT, Int32.reduceLT, Int32.reduceToInt, Nat.add_zero, Nat.zero_add, Nat.le_refl, eq_self, implies_true, ne_eq]
  refine (l37_2 54 0 s (by decide) (by decide)).2 ?_
  unfold fBB
  simp +decide only [w37_28, w37_29i, w37_31, w37_32, w37_35, w37_38, w37_39, w37_41, w37_44, w37_45i, w37_45, w37_47, w37_48, w37_51, w37_54, w37_55, w37_57, w37_60, w37_61, w37_62, w37_65, w37_68, w37_69, w37_72, w37_73, w37_75, w37_76, w37_77, w37_78, w37_79, w37_80, w37_83, w37_84, w37_87, w37_88, w37_89, w37_90j, w37_90uu, w37_91, w37_92, w37_93, w37_96, w37_99, w37_100, w37_101j, w37_102, w37_103, w37_106, w37_107, w37_109, w37_110, w37_111, w37_112, w37_113, w37_114, w37_115, w37_118, w37_119, w37_121, w37_122, w37_123, w37_124, w37_125, w37_126, w37_129, w37_132, w37_135, w37_138, w37_30, w37_46, zr_z0, zr_uI, zr_uJ, isO_put, isOw_put, put_fst, okv_int, okv_long, okv_ref, okv_bool, okv_byte, cat1_unset, cat1_int, cat1_ref, cs_nil, cs_int, cs_ref, cs_long, cmpL_lt, cmpL_gt, cmpL_eq, sI_uI, sI_uJ, sI_uA, sI_uB, sJ_uI, sJ_uJ, sJ_uA, sJ_uB, sA_uI, sA_uJ, sA_uA, sA_uB, sB_uI, sB_uJ, sB_uA, sB_uB, sI_fA, sJ_fA, sA_fA, sB_fA, sI_z0, sJ_z0, sA_z0, sB_z0, Option.toList_some, Option.toList_none, List.cons_append, List.nil_append, true_and, and_true, false_and, and_false, or_false, false_or, or_true, true_or, not_true_eq_false, not_false_eq_true, ↓reduceIte, Nat.reduceAdd, Nat.reduceLeDiff, Nat.reduceEqDiff, Nat.reduceSub, Int32.reduceAdd, Int32.reduceSub, Int32.reduceMul, Int32.reduceToNatClampNeg, Int64.reduceAdd, Int64.reduceSub, Int64.reduceMul, Int64.reduceLT, Int32.reduceLT, Int32.reduceToInt, Nat.add_zero, Nat.zero_add, Nat.le_refl, eq_self, implies_true, ne_eq, g0, s0, g1, s1, g2, g3, s3, g4, g5, g6, s6, g7, s7, g8, s8, g9, s9, g10, s10, g11, s11, g12, s12, g13, s13, g14, g15, g16, g17, g18, g19, g20, g21, g22, g23, g24, g25, g26, s26, g27, s27, ai1, aw1, ae1, as1, ai2, aw2, ae2, as2, ai3, aw3, ae3, as3, ai4, aw4, ae4, as4, ai5, aw5, ae5, as5, ai6, aw6, ae6, as6, ai7, aw7, ae7, as7, ai8, aw8, ae8, as8, ai9, aw9, ae9, as9, ai10, aw10, ae10, as10, ai11, aw11, ae11, as11, ai12, aw12, ae12, as12, ai13, aw13, ae13, as13, ai14, aw14, ae14, as14, ai15, aw15, ae15, as15, sI_fB, sA_fB, f11, f12, f13, m0, m1, m2, m3, m4, m5, w0, w1, w2, z64, n64]
  refine hq _ ⟨⟨?_, ?_, ?_⟩, ?_, ?_⟩ ⟨?_, ?_, ?_, ?_, ?_, ?_⟩ ⟨⟨?_, ?_, ?_⟩, ?_, ?_, ?_⟩ ⟨⟨?_, ?_, ?_⟩, ⟨?_, ?_, ?_⟩, ⟨?_, ?_, ?_⟩, ⟨?_, ?_, ?_⟩, ⟨?_, ?_, ?_⟩, ?_, ?_, ?_⟩ ⟨?_, ?_, ?_⟩ <;> simp +decide only [zr_z0, zr_uI, zr_uJ, isO_put, isOw_put, put_fst, okv_int, okv_long, okv_ref, okv_bool, okv_byte, cat1_unset, cat1_int, cat1_ref, cs_nil, cs_int, cs_ref, cs_long, cmpL_lt, cmpL_gt, cmpL_eq, sI_uI, sI_uJ, sI_uA, sI_uB, sJ_uI, sJ_uJ, sJ_uA, sJ_uB, sA_uI, sA_uJ, sA_uA, sA_uB, sB_uI, sB_uJ, sB_uA, sB_uB, sI_fA, sJ_fA, sA_fA, sB_fA, sI_z0, sJ_z0, sA_z0, sB_z0, Option.toList_some, Option.toList_none, List.cons_append, List.nil_append, true_and, and_true, false_and, and_false, or_false, false_or, or_true, true_or, not_true_eq_false, not_false_eq_true, ↓reduceIte, Nat.reduceAdd, Nat.reduceLeDiff, Nat.reduceEqDiff, Nat.reduceSub, Int32.reduceAdd, Int32.reduceSub, Int32.reduceMul, Int32.reduceToNatClampNeg, Int64.reduceAdd, Int64.reduceSub, Int64.reduceMul, Int64.reduceLT, Int32.reduceLT, Int32.reduceToInt, Nat.add_zero, Nat.zero_add, Nat.le_refl, eq_self, implies_true, ne_eq, sI_fB, sA_fB, sB_fB, f11, f12, f13, k0, k1, m0, m1, m2, m3, m4, m5, w0, w1, w2]
end E

section F
variable {lw : LW} {H : AH} {p j : Nat} {s s' s'' : St} {Q : Option Value → AH → Prop} {a b c d x y : Int32} {A B C D : Int64} {h : Nat → Cel} {k n : Nat}
def Kp (s s' : St) : Prop := (∀ k, k ≠ 26 → sI s' k = sI s k) ∧ (∀ t i, t ≠ 13 → sA s' t i = sA s t i) ∧ (∀ t i, t ≠ 12 → sB s' t i = sB s t i)
theorem Kp.trans (h : Kp s s') (g : Kp s' s'') : Kp s s'' := ⟨fun k hk => (g.1 k hk).trans (h.1 k hk), fun t i ht => (g.2.1 t i ht).trans (h.2.1 t i ht), fun t i ht => (g.2.2 t i ht).trans (h.2.2 t i ht)⟩
theorem d1 (x : Int64) : x / 1 = x := Int64.div_one
theorem d0 (x : Int64) : 0 / x = 0 := Int64.zero_div
set_option maxRecDepth 100000 in
set_option maxHeartbeats 4000000 in
theorem v38 (G : G3 s A B C D) (hA : (A = 0) = False) (hBC : (B * C = 0) = False) (hc : B * A = A * B) (hq : ∀ s', Kp s s' → sA s' 13 0 = 0 → sA s' 13 1 = 1 → Q (some (.int 2)) (ob H p s')) : Cl (pj lw) 38 [.ref p, .int 3, .int 3] (ob H p s) Q := by
  obtain ⟨⟨e0, e1, e2⟩, ⟨e6, e7, e8⟩, ⟨e12, e13, e14⟩, ⟨e3, e4, e5⟩, ⟨e9, e10, e11⟩, e15, e16, e17⟩ := G
  rw [c38]
  simp +decide only [w38_0, w38_1, w38_2, w38_5, w38_6, w38_7, w38_10, w38_11, w38_13, w38_15, w38_18, w38_19, w38_22, w38_23, w38_24, w38_25, w38_28, w38_31, w38_32i, w38_33, w38_34uu, w38_36, w38_37, w38_41, w38_42, w38_45, w38_47, w38_49, w38_52, w38_53, w38_54, w38_57, w38_58, w38_60, w38_63, w38_64, w38_65, w38_66, w38_68, w38_71i, w38_71, w38_73, w38_75, w38_78, w38_80, w38_81, w38_84, w38_85, w38_87, w38_91, w38_92, w38_95, w38_96, w38_98, w38_99, w38_101, w38_102, w38_103j, w38_103uu, w38_105, w38_106, w38_107, w38_108i, w38_108, w38_112, w38_113, w38_116, w38_118, w38_120, w38_123, w38_124, w38_126, w38_127, w38_129, w38_131, w38_133, w38_136, w38_139, w38_142, w38_144j, w38_146, w38_147, w38_149, w38_152, w38_155, w38_158, w38_161, w38_162, w38_12, w38_39, w38_110, c39, w39_0, w39_1, w39_5, w39_6, w39_9, w39_11, w39_13, w39_16, w39_17, w39_20, w39_22, w39_24, w39_25, w39_26, w39_27, w39_28, w39_29, w39_30, w39_33, w39_35, w39_36, w39_39, w39_42, w39_43, c41, w41_0, w41_2, w41_3, w41_4, w41_7, w41_8, w41_9, w41_12, w41_13, w41_15, w41_16, w41_17, w41_18, w41_19uu, w41_21, w41_22, w41_26, w41_28, w41_31, w41_32, w41_35, w41_36, w41_38, w41_39, w41_41, w41_42, w41_44, w41_45, w41_48, w41_49, w41_51, w41_52, w41_54, w41_55, w41_56, w41_57, w41_59, w41_60, w41_63, w41_64, w41_66, w41_67, w41_69, w41_70, w41_71, w41_72, w41_73, w41_75, w41_76, w41_77, w41_80, w41_83, w39_3, w41_24, zr_z0, zr_uI, zr_uJ, isO_put, isOw_put, put_fst, okv_int, okv_long, okv_ref, okv_bool, okv_byte, cat1_unset, cat1_int, cat1_ref, cs_nil, cs_int, cs_ref, cs_long, cmpL_lt, cmpL_gt, cmpL_eq, sI_uI, sI_uJ, sI_uA, sI_uB, sJ_uI, sJ_uJ, sJ_uA, sJ_uB, sA_uI, sA_uJ, sA_uA, sA_uB, sB_uI, sB_uJ, sB_uA, sB_uB, sI_fA, sJ_fA, sA_fA, sB_fA, sI_z0, sJ_z0, sA_z0, sB_z0, Option.toList_some, Option.toList_none, List.cons_append, List.nil_append, true_and, and_true, false_and, and_false, or_false, false_or, or_true, true_or, not_true_eq_false, not_false_eq_true, ↓reduceIte, Nat.reduceAdd, Nat.reduceLeDiff, Nat.reduceEqDiff, Nat.reduceSub, Int32.reduceAdd, Int32.reduceSub, Int32.reduceMul, Int32.reduceToNatClampNeg, Int64.reduceAdd, Int64.reduceSub, Int64.reduceMul, Int64.reduceLT, Int32.reduceLT, Int32.reduceToInt, Nat.add_zero, Nat.zero_add, Nat.le_refl, eq_self, implies_true, ne_eq, g0, s0, g1, s1, g2, g3, s3, g4, g5, g6, s6, g7, s7, g8, s8, g9, s9, g10, s10, g11, s11, g12, s12, g13, s13, g14, g15, g16, g17, g18, g19, g20, g21, g22, g23, g24, g25, g26, s26, g27, s27, ai1, aw1, ae1, as1, ai2, aw2, ae2, as2, ai3, aw3, ae3, as3, ai4, aw4, ae4, as4, ai5, aw5, ae5, as5, ai6, aw6, ae6, as6, ai7, aw7, ae7, as7, ai8, aw8, ae8, as8, ai9, aw9, ae9, as9, ai10, aw10, ae10, as10, ai11, aw11, ae11, as11, ai12, aw12, ae12, as12, ai13, aw13, ae13, as13, ai14, aw14, ae14, as14, ai15, aw15, ae15, as15, e0, e1, e2, e3, e4, e5, e6, e7, e8, e9, e10, e11, e12, e13, e14, e15, e16, e17, hA, hBC, hc, d1, d0, Int64.mul_zero, Int64.zero_mul, Int64.sub_zero, Int64.zero_sub, Int64.sub_self, Int64.mul_neg, Int64.neg_neg, n64]
  refine hq _ ⟨fun k hk => ?_, fun t i ht => ?_, fun t i ht => ?_⟩ ?_ ?_
  · simp only [sI_uI, sI_uJ, sI_uA, sI_uB, eq_false hk, if_false]
  · simp only [sA_uI, sA_uJ, sA_uA, sA_uB, eq_false ht, false_and, if_false]
  · simp only [sB_uI, sB_uJ, sB_uA, sB_uB, eq_false ht, false_and, if_false]
  · simp +decide only [zr_z0, zr_uI, zr_uJ, isO_put, isOw_put, put_fst, okv_int, okv_long, okv_ref, okv_bool, okv_byte, cat1_unset, cat1_int, cat1_ref, cs_nil, cs_int, cs_ref, cs_long, cmpL_lt, cmpL_gt, cmpL_eq, sI_uI, sI_uJ, sI_uA, sI_uB, sJ_uI, sJ_uJ, sJ_uA, sJ_uB, sA_uI, sA_uJ, sA_uA, sA_uB, sB_uI, sB_uJ, sB_uA, sB_uB, sI_fA, sJ_fA, sA_fA, sB_fA, sI_z0, sJ_z0, sA_z0, sB_z0, Option.toList_some, Option.toList_none, List.cons_append, List.nil_append, true_and, and_true, false_and, and_false, or_false, false_or, or_true, true_or, not_true_eq_false, not_false_eq_true, ↓reduceIte, Nat.reduceAdd, Nat.reduceLeDiff, Nat.reduceEqDiff, Nat.reduceSub, Int32.reduceAdd, Int32.reduceSub, Int32.reduceMul, Int32.reduceToNatClampNeg, Int64.reduceAdd, Int64.reduceSub, Int64.reduceMul, Int64.reduceLT, Int32.reduceLT, Int32.reduceToInt, Nat.add_zero, Nat.zero_add, Nat.le_refl, eq_self, implies_true, ne_eq]
  · simp +decide only [zr_z0, zr_uI, zr_uJ, isO_put, isOw_put, put_fst, okv_int, okv_long, okv_ref, okv_bool, okv_byte, cat1_unset, cat1_int, cat1_ref, cs_nil, cs_int, cs_ref, cs_long, cmpL_lt, cmpL_gt, cmpL_eq, sI_uI, sI_uJ, sI_uA, sI_uB, sJ_uI, sJ_uJ, sJ_uA, sJ_uB, sA_uI, sA_uJ, sA_uA, sA_uB, sB_uI, sB_uJ, sB_uA, sB_uB, sI_fA, sJ_fA, sA_fA, sB_fA, sI_z0, sJ_z0, sA_z0, sB_z0, Option.toList_some, Option.toList_none, List.cons_append, List.nil_append, true_and, and_true, false_and, and_false, or_false, false_or, or_true, true_or, not_true_eq_false, not_false_eq_true, ↓reduceIte, Nat.reduceAdd, Nat.reduceLeDiff, Nat.reduceEqDiff, Nat.reduceSub, Int32.reduceAdd, Int32.reduceSub, Int32.reduceMul, Int32.reduceToNatClampNeg, Int64.reduceAdd, Int64.reduceSub, Int64.reduceMul, Int64.reduceLT, Int32.reduceLT, Int32.reduceToInt, Nat.add_zero, Nat.zero_add, Nat.le_refl, eq_self, implies_true, ne_eq]
end F

section G
variable {lw : LW} {H : AH} {p j : Nat} {s s' s'' : St} {Q : Option Value → AH → Prop} {a b c d x y : Int32} {A B C D X Y Z : Int64} {h : Nat → Cel} {k n : Nat}
theorem o64 : (1 : Int32).toInt64 = 1 := by decide
def SL (s : St) : Prop := sI s 11 = 3 ∧ sA s 14 0 = 0 ∧ sA s 14 1 = 1
set_option maxRecDepth 100000 in
set_option maxHeartbeats 4000000 in
theorem v43_0 (L : SL s) (G : G2 s A B C D) (hC : (C = 0) = False) (hD : (D = 0) = False) (hCD : (C * D = 0) = False) (hq : ∀ s', Kp s s' → Q (some (.long (C * D))) (ob H p s')) : Cl (pj lw) 43 [.ref p, .int 2, .int 0] (ob H p s) Q := by
  obtain ⟨⟨e0, e1, e2⟩, e6, e7, e8⟩ := G
  obtain ⟨n3, l0, l1⟩ := L
  have hC' : (-C = 0) = False := eq_false fun w => by have := congrArg (fun z => -z) w; simp only [Int64.neg_neg, n64] at this; exact cast hC this
  rw [c43]
  simp +decide only [w43_0, w43_1, w43_2, w43_3, c44, w44_0, w44_1, zr_z0, zr_uI, zr_uJ, isO_put, isOw_put, put_fst, okv_int, okv_long, okv_ref, okv_bool, okv_byte, cat1_unset, cat1_int, cat1_ref, cs_nil, cs_int, cs_ref, cs_long, cmpL_lt, cmpL_gt, cmpL_eq, sI_uI, sI_uJ, sI_uA, sI_uB, sJ_uI, sJ_uJ, sJ_uA, sJ_uB, sA_uI, sA_uJ, sA_uA, sA_uB, sB_uI, sB_uJ, sB_uA, sB_uB, sI_fA, sJ_fA, sA_fA, sB_fA, sI_z0, sJ_z0, sA_z0, sB_z0, Option.toList_some, Option.toList_none, List.cons_append, List.nil_append, true_and, and_true, false_and, and_false, or_false, false_or, or_true, true_or, not_true_eq_false, not_false_eq_true, ↓reduceIte, Nat.reduceAdd, Nat.reduceLeDiff, Nat.reduceEqDiff, Nat.reduceSub, Int32.reduceAdd, Int32.reduceSub, Int32.reduceMul, Int32.reduceToNatClampNeg, Int64.reduceAdd, Int64.reduceSub, Int64.reduceMul, Int64.reduceLT, Int32.reduceLT, Int32.reduceToInt, Nat.add_zero, Nat.zero_add, Nat.le_refl, eq_self, implies_true, ne_eq, g0, s0, g1, s1, g2, g3, s3, g4, g5, g6, s6, g7, s7, g8, s8, g9, s9, g10, s10, g11, s11, g12, s12, g13, s13, g14, g15, g16, g17, g18, g19, g20, g21, g22, g23, g24, g25, g26, s26, g27, s27, ai1, aw1, ae1, as1, ai2, aw2, ae2, as2, ai3, aw3, ae3, as3, ai4, aw4, ae4, as4, ai5, aw5, ae5, as5, ai6, aw6, ae6, as6, ai7, aw7, ae7, as7, ai8, aw8, ae8, as8, ai9, aw9, ae9, as9, ai10, aw10, ae10, as10, ai11, aw11, ae11, as11, ai12, aw12, ae12, as12, ai13, aw13, ae13, as13, ai14, aw14, ae14, as14, ai15, aw15, ae15, as15]
  refine (l44_2 54 0 s (by decide) (by decide)).2 ?_
  simp +decide only [w44_21, w44_22i, w44_24, w44_25, w44_28, w44_29, w44_31, w44_34, w44_35i, w44_35, w44_37, w44_38i, w44_38, w44_42, w44_43, w44_46, w44_49, w44_51, w44_53, w44_56, w44_58, w44_59, w44_62, w44_64, w44_66, w44_69, w44_70, w44_73, w44_74, w44_76, w44_77, w44_79, w44_80, w44_81, w44_84, w44_85, w44_88, w44_89, w44_90, w44_92, w44_93, w44_95, w44_96, w44_97, w44_98, w44_101, w44_104, w44_107, w44_110, w44_113, w44_23, w44_40, w43_0, w43_1, w43_2, w43_3, w43_6, w43_7, w43_8, w43_9, w43_12, w43_13, w43_14, w43_15, w43_18, w43_19, w43_22, w43_23, w43_24, w43_27, w43_28, w43_31, w43_32uu, w43_34, w43_35, w43_36, w43_37, w43_40, w43_42, w43_45, w43_47, w43_48, c38, w38_0, w38_1, w38_2, w38_5, w38_6, w38_7, w38_10, w38_11, w38_13, w38_15, w38_18, w38_19, w38_22, w38_23, w38_24, w38_25, w38_28, w38_31, w38_32i, w38_33, w38_34uu, w38_36, w38_37, w38_41, w38_42, w38_45, w38_47, w38_49, w38_52, w38_53, w38_54, w38_57, w38_58, w38_60, w38_63, w38_64, w38_65, w38_66, w38_68, w38_71i, w38_71, w38_73, w38_75, w38_78, w38_80, w38_81, w38_84, w38_85, w38_87, w38_91, w38_92, w38_95, w38_96, w38_98, w38_99, w38_101, w38_102, w38_103j, w38_103uu, w38_105, w38_106, w38_107, w38_108i, w38_108, w38_112, w38_113, w38_116, w38_118, w38_120, w38_123, w38_124, w38_126, w38_127, w38_129, w38_131, w38_133, w38_136, w38_139, w38_142, w38_144j, w38_146, w38_147, w38_149, w38_152, w38_155, w38_158, w38_161, w38_162, c39, w39_0, w39_1, w39_5, w39_6, w39_9, w39_11, w39_13, w39_16, w39_17, w39_20, w39_22, w39_24, w39_25, w39_26, w39_27, w39_28, w39_29, w39_30, w39_33, w39_35, w39_36, w39_39, w39_42, w39_43, c41, w41_0, w41_2, w41_3, w41_4, w41_7, w41_8, w41_9, w41_12, w41_13, w41_15, w41_16, w41_17, w41_18, w41_19uu, w41_21, w41_22, w41_26, w41_28, w41_31, w41_32, w41_35, w41_36, w41_38, w41_39, w41_41, w41_42, w41_44, w41_45, w41_48, w41_49, w41_51, w41_52, w41_54, w41_55, w41_56, w41_57, w41_59, w41_60, w41_63, w41_64, w41_66, w41_67, w41_69, w41_70, w41_71, w41_72, w41_73, w41_75, w41_76, w41_77, w41_80, w41_83, w38_12, w38_39, w38_110, w39_3, w41_24, zr_z0, zr_uI, zr_uJ, isO_put, isOw_put, put_fst, okv_int, okv_long, okv_ref, okv_bool, okv_byte, cat1_unset, cat1_int, cat1_ref, cs_nil, cs_int, cs_ref, cs_long, cmpL_lt, cmpL_gt, cmpL_eq, sI_uI, sI_uJ, sI_uA, sI_uB, sJ_uI, sJ_uJ, sJ_uA, sJ_uB, sA_uI, sA_uJ, sA_uA, sA_uB, sB_uI, sB_uJ, sB_uA, sB_uB, sI_fA, sJ_fA, sA_fA, sB_fA, sI_z0, sJ_z0, sA_z0, sB_z0, Option.toList_some, Option.toList_none, List.cons_append, List.nil_append, true_and, and_true, false_and, and_false, or_false, false_or, or_true, true_or, not_true_eq_false, not_false_eq_true, ↓reduceIte, Nat.reduceAdd, Nat.reduceLeDiff, Nat.reduceEqDiff, Nat.reduceSub, Int32.reduceAdd, Int32.reduceSub, Int32.reduceMul, Int32.reduceToNatClampNeg, Int64.reduceAdd, Int64.reduceSub, Int64.reduceMul, Int64.reduceLT, Int32.reduceLT, Int32.reduceToInt, Nat.add_zero, Nat.zero_add, Nat.le_refl, eq_self, implies_true, ne_eq, g0, s0, g1, s1, g2, g3, s3, g4, g5, g6, s6, g7, s7, g8, s8, g9, s9, g10, s10, g11, s11, g12, s12, g13, s13, g14, g15, g16, g17, g18, g19, g20, g21, g22, g23, g24, g25, g26, s26, g27, s27, ai1, aw1, ae1, as1, ai2, aw2, ae2, as2, ai3, aw3, ae3, as3, ai4, aw4, ae4, as4, ai5, aw5, ae5, as5, ai6, aw6, ae6, as6, ai7, aw7, ae7, as7, ai8, aw8, ae8, as8, ai9, aw9, ae9, as9, ai10, aw10, ae10, as10, ai11, aw11, ae11, as11, ai12, aw12, ae12, as12, ai13, aw13, ae13, as13, ai14, aw14, ae14, as14, ai15, aw15, ae15, as15, sI_fB, sA_fB, sB_fB, e0, e1, e2, e6, e7, e8, n3, l0, l1, hC', hCD, d1, d0, Int64.mul_zero, Int64.zero_mul, Int64.sub_zero, Int64.zero_sub, Int64.sub_self, Int64.mul_neg, Int64.neg_neg, n64, Int64.neg_mul, o64, Int64.one_mul]
  refine hq _ ⟨fun k hk => ?_, fun t i ht => ?_, fun t i ht => ?_⟩
  · simp only [sI_uI, sI_uJ, sI_uA, sI_uB, sI_fB, eq_false hk, if_false]
  · simp only [sA_uI, sA_uJ, sA_uA, sA_uB, sA_fB, eq_false ht, false_and, if_false]
  · simp only [sB_uI, sB_uJ, sB_uA, sB_uB, sB_fB, eq_false ht, false_and, if_false]
set_option maxRecDepth 100000 in
set_option maxHeartbeats 4000000 in
theorem v43_1 (L : SL s) (G : G2 s A B C D) (hA : (A = 0) = False) (hc : B * A = A * B) (hAD : (A * D = 0) = False) (hq : ∀ s', Kp s s' → Q (some (.long (A * D))) (ob H p s')) : Cl (pj lw) 43 [.ref p, .int 2, .int 1] (ob H p s) Q := by
  obtain ⟨⟨e0, e1, e2⟩, e6, e7, e8⟩ := G
  obtain ⟨n3, l0, l1⟩ := L
  have hAD' : (-(A * D) = 0) = False := eq_false fun w => by have := congrArg (fun z => -z) w; simp only [Int64.neg_neg, n64] at this; exact cast hAD this
  rw [c43]
  simp +decide only [w43_0, w43_1, w43_2, w43_3, c44, w44_0, w44_1, zr_z0, zr_uI, zr_uJ, isO_put, isOw_put, put_fst, okv_int, okv_long, okv_ref, okv_bool, okv_byte, cat1_unset, cat1_int, cat1_ref, cs_nil, cs_int, cs_ref, cs_long, cmpL_lt, cmpL_gt, cmpL_eq, sI_uI, sI_uJ, sI_uA, sI_uB, sJ_uI, sJ_uJ, sJ_uA, sJ_uB, sA_uI, sA_uJ, sA_uA, sA_uB, sB_uI, sB_uJ, sB_uA, sB_uB, sI_fA, sJ_fA, sA_fA, sB_fA, sI_z0, sJ_z0, sA_z0, sB_z0, Option.toList_some, Option.toList_none, List.cons_append, List.nil_append, true_and, and_true, false_and, and_false, or_false, false_or, or_true, true_or, not_true_eq_false, not_false_eq_true, ↓reduceIte, Nat.reduceAdd, Nat.reduceLeDiff, Nat.reduceEqDiff, Nat.reduceSub, Int32.reduceAdd, Int32.reduceSub, Int32.reduceMul, Int32.reduceToNatClampNeg, Int64.reduceAdd, Int64.reduceSub, Int64.reduceMul, Int64.reduceLT, Int32.reduceLT, Int32.reduceToInt, Nat.add_zero, Nat.zero_add, Nat.le_refl, eq_self, implies_true, ne_eq, g0, s0, g1, s1, g2, g3, s3, g4, g5, g6, s6, g7, s7, g8, s8, g9, s9, g10, s10, g11, s11, g12, s12, g13, s13, g14, g15, g16, g17, g18, g19, g20, g21, g22, g23, g24, g25, g26, s26, g27, s27, ai1, aw1, ae1, as1, ai2, aw2, ae2, as2, ai3, aw3, ae3, as3, ai4, aw4, ae4, as4, ai5, aw5, ae5, as5, ai6, aw6, ae6, as6, ai7, aw7, ae7, as7, ai8, aw8, ae8, as8, ai9, aw9, ae9, as9, ai10, aw10, ae10, as10, ai11, aw11, ae11, as11, ai12, aw12, ae12, as12, ai13, aw13, ae13, as13, ai14, aw14, ae14, as14, ai15, aw15, ae15, as15]
  refine (l44_2 54 0 s (by decide) (by decide)).2 ?_
  simp +decide only [w44_21, w44_22i, w44_24, w44_25, w44_28, w44_29, w44_31, w44_34, w44_35i, w44_35, w44_37, w44_38i, w44_38, w44_42, w44_43, w44_46, w44_49, w44_51, w44_53, w44_56, w44_58, w44_59, w44_62, w44_64, w44_66, w44_69, w44_70, w44_73, w44_74, w44_76, w44_77, w44_79, w44_80, w44_81, w44_84, w44_85, w44_88, w44_89, w44_90, w44_92, w44_93, w44_95, w44_96, w44_97, w44_98, w44_101, w44_104, w44_107, w44_110, w44_113, w44_23, w44_40, w43_0, w43_1, w43_2, w43_3, w43_6, w43_7, w43_8, w43_9, w43_12, w43_13, w43_14, w43_15, w43_18, w43_19, w43_22, w43_23, w43_24, w43_27, w43_28, w43_31, w43_32uu, w43_34, w43_35, w43_36, w43_37, w43_40, w43_42, w43_45, w43_47, w43_48, c38, w38_0, w38_1, w38_2, w38_5, w38_6, w38_7, w38_10, w38_11, w38_13, w38_15, w38_18, w38_19, w38_22, w38_23, w38_24, w38_25, w38_28, w38_31, w38_32i, w38_33, w38_34uu, w38_36, w38_37, w38_41, w38_42, w38_45, w38_47, w38_49, w38_52, w38_53, w38_54, w38_57, w38_58, w38_60, w38_63, w38_64, w38_65, w38_66, w38_68, w38_71i, w38_71, w38_73, w38_75, w38_78, w38_80, w38_81, w38_84, w38_85, w38_87, w38_91, w38_92, w38_95, w38_96, w38_98, w38_99, w38_101, w38_102, w38_103j, w38_103uu, w38_105, w38_106, w38_107, w38_108i, w38_108, w38_112, w38_113, w38_116, w38_118, w38_120, w38_123, w38_124, w38_126, w38_127, w38_129, w38_131, w38_133, w38_136, w38_139, w38_142, w38_144j, w38_146, w38_147, w38_149, w38_152, w38_155, w38_158, w38_161, w38_162, c39, w39_0, w39_1, w39_5, w39_6, w39_9, w39_11, w39_13, w39_16, w39_17, w39_20, w39_22, w39_24, w39_25, w39_26, w39_27, w39_28, w39_29, w39_30, w39_33, w39_35, w39_36, w39_39, w39_42, w39_43, c41, w41_0, w41_2, w41_3, w41_4, w41_7, w41_8, w41_9, w41_12, w41_13, w41_15, w41_16, w41_17, w41_18, w41_19uu, w41_21, w41_22, w41_26, w41_28, w41_31, w41_32, w41_35, w41_36, w41_38, w41_39, w41_41, w41_42, w41_44, w41_45, w41_48, w41_49, w41_51, w41_52, w41_54, w41_55, w41_56, w41_57, w41_59, w41_60, w41_63, w41_64, w41_66, w41_67, w41_69, w41_70, w41_71, w41_72, w41_73, w41_75, w41_76, w41_77, w41_80, w41_83, w38_12, w38_39, w38_110, w39_3, w41_24, zr_z0, zr_uI, zr_uJ, isO_put, isOw_put, put_fst, okv_int, okv_long, okv_ref, okv_bool, okv_byte, cat1_unset, cat1_int, cat1_ref, cs_nil, cs_int, cs_ref, cs_long, cmpL_lt, cmpL_gt, cmpL_eq, sI_uI, sI_uJ, sI_uA, sI_uB, sJ_uI, sJ_uJ, sJ_uA, sJ_uB, sA_uI, sA_uJ, sA_uA, sA_uB, sB_uI, sB_uJ, sB_uA, sB_uB, sI_fA, sJ_fA, sA_fA, sB_fA, sI_z0, sJ_z0, sA_z0, sB_z0, Option.toList_some, Option.toList_none, List.cons_append, List.nil_append, true_and, and_true, false_and, and_false, or_false, false_or, or_true, true_or, not_true_eq_false, not_false_eq_true, ↓reduceIte, Nat.reduceAdd, Nat.reduceLeDiff, Nat.reduceEqDiff, Nat.reduceSub, Int32.reduceAdd, Int32.reduceSub, Int32.reduceMul, Int32.reduceToNatClampNeg, Int64.reduceAdd, Int64.reduceSub, Int64.reduceMul, Int64.reduceLT, Int32.reduceLT, Int32.reduceToInt, Nat.add_zero, Nat.zero_add, Nat.le_refl, eq_self, implies_true, ne_eq, g0, s0, g1, s1, g2, g3, s3, g4, g5, g6, s6, g7, s7, g8, s8, g9, s9, g10, s10, g11, s11, g12, s12, g13, s13, g14, g15, g16, g17, g18, g19, g20, g21, g22, g23, g24, g25, g26, s26, g27, s27, ai1, aw1, ae1, as1, ai2, aw2, ae2, as2, ai3, aw3, ae3, as3, ai4, aw4, ae4, as4, ai5, aw5, ae5, as5, ai6, aw6, ae6, as6, ai7, aw7, ae7, as7, ai8, aw8, ae8, as8, ai9, aw9, ae9, as9, ai10, aw10, ae10, as10, ai11, aw11, ae11, as11, ai12, aw12, ae12, as12, ai13, aw13, ae13, as13, ai14, aw14, ae14, as14, ai15, aw15, ae15, as15, sI_fB, sA_fB, sB_fB, e0, e1, e2, e6, e7, e8, n3, l0, l1, hA, hAD', hc, d1, d0, Int64.mul_zero, Int64.zero_mul, Int64.sub_zero, Int64.zero_sub, Int64.sub_self, Int64.mul_neg, Int64.neg_neg, n64, Int64.neg_mul, o64, Int64.one_mul]
  refine hq _ ⟨fun k hk => ?_, fun t i ht => ?_, fun t i ht => ?_⟩
  · simp only [sI_uI, sI_uJ, sI_uA, sI_uB, sI_fB, eq_false hk, if_false]
  · simp only [sA_uI, sA_uJ, sA_uA, sA_uB, sA_fB, eq_false ht, false_and, if_false]
  · simp only [sB_uI, sB_uJ, sB_uA, sB_uB, sB_fB, eq_false ht, false_and, if_false]
set_option maxRecDepth 100000 in
set_option maxHeartbeats 4000000 in
theorem v43_2 (L : SL s) (G : G2 s A B C D) (hA : (A = 0) = False) (hc : B * A = A * B) (hBC : (B * C = 0) = False) (hq : ∀ s', Kp s s' → Q (some (.long (B * C))) (ob H p s')) : Cl (pj lw) 43 [.ref p, .int 2, .int 2] (ob H p s) Q := by
  obtain ⟨⟨e0, e1, e2⟩, e6, e7, e8⟩ := G
  obtain ⟨n3, l0, l1⟩ := L
  rw [c43]
  simp +decide only [w43_0, w43_1, w43_2, w43_3, c44, w44_0, w44_1, zr_z0, zr_uI, zr_uJ, isO_put, isOw_put, put_fst, okv_int, okv_long, okv_ref, okv_bool, okv_byte, cat1_unset, cat1_int, cat1_ref, cs_nil, cs_int, cs_ref, cs_long, cmpL_lt, cmpL_gt, cmpL_eq, sI_uI, sI_uJ, sI_uA, sI_uB, sJ_uI, sJ_uJ, sJ_uA, sJ_uB, sA_uI, sA_uJ, sA_uA, sA_uB, sB_uI, sB_uJ, sB_uA, sB_uB, sI_fA, sJ_fA, sA_fA, sB_fA, sI_z0, sJ_z0, sA_z0, sB_z0, Option.toList_some, Option.toList_none, List.cons_append, List.nil_append, true_and, and_true, false_and, and_false, or_false, false_or, or_true, true_or, not_true_eq_false, not_false_eq_true, ↓reduceIte, Nat.reduceAdd, Nat.reduceLeDiff, Nat.reduceEqDiff, Nat.reduceSub, Int32.reduceAdd, Int32.reduceSub, Int32.reduceMul, Int32.reduceToNatClampNeg, Int64.reduceAdd, Int64.reduceSub, Int64.reduceMul, Int64.reduceLT, Int32.reduceLT, Int32.reduceToInt, Nat.add_zero, Nat.zero_add, Nat.le_refl, eq_self, implies_true, ne_eq, g0, s0, g1, s1, g2, g3, s3, g4, g5, g6, s6, g7, s7, g8, s8, g9, s9, g10, s10, g11, s11, g12, s12, g13, s13, g14, g15, g16, g17, g18, g19, g20, g21, g22, g23, g24, g25, g26, s26, g27, s27, ai1, aw1, ae1, as1, ai2, aw2, ae2, as2, ai3, aw3, ae3, as3, ai4, aw4, ae4, as4, ai5, aw5, ae5, as5, ai6, aw6, ae6, as6, ai7, aw7, ae7, as7, ai8, aw8, ae8, as8, ai9, aw9, ae9, as9, ai10, aw10, ae10, as10, ai11, aw11, ae11, as11, ai12, aw12, ae12, as12, ai13, aw13, ae13, as13, ai14, aw14, ae14, as14, ai15, aw15, ae15, as15]
  refine (l44_2 54 0 s (by decide) (by decide)).2 ?_
  simp +decide only [w44_21, w44_22i, w44_24, w44_25, w44_28, w44_29, w44_31, w44_34, w44_35i, w44_35, w44_37, w44_38i, w44_38, w44_42, w44_43, w44_46, w44_49, w44_51, w44_53, w44_56, w44_58, w44_59, w44_62, w44_64, w44_66, w44_69, w44_70, w44_73, w44_74, w44_76, w44_77, w44_79, w44_80, w44_81, w44_84, w44_85, w44_88, w44_89, w44_90, w44_92, w44_93, w44_95, w44_96, w44_97, w44_98, w44_101, w44_104, w44_107, w44_110, w44_113, w44_23, w44_40, w43_0, w43_1, w43_2, w43_3, w43_6, w43_7, w43_8, w43_9, w43_12, w43_13, w43_14, w43_15, w43_18, w43_19, w43_22, w43_23, w43_24, w43_27, w43_28, w43_31, w43_32uu, w43_34, w43_35, w43_36, w43_37, w43_40, w43_42, w43_45, w43_47, w43_48, c38, w38_0, w38_1, w38_2, w38_5, w38_6, w38_7, w38_10, w38_11, w38_13, w38_15, w38_18, w38_19, w38_22, w38_23, w38_24, w38_25, w38_28, w38_31, w38_32i, w38_33, w38_34uu, w38_36, w38_37, w38_41, w38_42, w38_45, w38_47, w38_49, w38_52, w38_53, w38_54, w38_57, w38_58, w38_60, w38_63, w38_64, w38_65, w38_66, w38_68, w38_71i, w38_71, w38_73, w38_75, w38_78, w38_80, w38_81, w38_84, w38_85, w38_87, w38_91, w38_92, w38_95, w38_96, w38_98, w38_99, w38_101, w38_102, w38_103j, w38_103uu, w38_105, w38_106, w38_107, w38_108i, w38_108, w38_112, w38_113, w38_116, w38_118, w38_120, w38_123, w38_124, w38_126, w38_127, w38_129, w38_131, w38_133, w38_136, w38_139, w38_142, w38_144j, w38_146, w38_147, w38_149, w38_152, w38_155, w38_158, w38_161, w38_162, c39, w39_0, w39_1, w39_5, w39_6, w39_9, w39_11, w39_13, w39_16, w39_17, w39_20, w39_22, w39_24, w39_25, w39_26, w39_27, w39_28, w39_29, w39_30, w39_33, w39_35, w39_36, w39_39, w39_42, w39_43, c41, w41_0, w41_2, w41_3, w41_4, w41_7, w41_8, w41_9, w41_12, w41_13, w41_15, w41_16, w41_17, w41_18, w41_19uu, w41_21, w41_22, w41_26, w41_28, w41_31, w41_32, w41_35, w41_36, w41_38, w41_39, w41_41, w41_42, w41_44, w41_45, w41_48, w41_49, w41_51, w41_52, w41_54, w41_55, w41_56, w41_57, w41_59, w41_60, w41_63, w41_64, w41_66, w41_67, w41_69, w41_70, w41_71, w41_72, w41_73, w41_75, w41_76, w41_77, w41_80, w41_83, w38_12, w38_39, w38_110, w39_3, w41_24, zr_z0, zr_uI, zr_uJ, isO_put, isOw_put, put_fst, okv_int, okv_long, okv_ref, okv_bool, okv_byte, cat1_unset, cat1_int, cat1_ref, cs_nil, cs_int, cs_ref, cs_long, cmpL_lt, cmpL_gt, cmpL_eq, sI_uI, sI_uJ, sI_uA, sI_uB, sJ_uI, sJ_uJ, sJ_uA, sJ_uB, sA_uI, sA_uJ, sA_uA, sA_uB, sB_uI, sB_uJ, sB_uA, sB_uB, sI_fA, sJ_fA, sA_fA, sB_fA, sI_z0, sJ_z0, sA_z0, sB_z0, Option.toList_some, Option.toList_none, List.cons_append, List.nil_append, true_and, and_true, false_and, and_false, or_false, false_or, or_true, true_or, not_true_eq_false, not_false_eq_true, ↓reduceIte, Nat.reduceAdd, Nat.reduceLeDiff, Nat.reduceEqDiff, Nat.reduceSub, Int32.reduceAdd, Int32.reduceSub, Int32.reduceMul, Int32.reduceToNatClampNeg, Int64.reduceAdd, Int64.reduceSub, Int64.reduceMul, Int64.reduceLT, Int32.reduceLT, Int32.reduceToInt, Nat.add_zero, Nat.zero_add, Nat.le_refl, eq_self, implies_true, ne_eq, g0, s0, g1, s1, g2, g3, s3, g4, g5, g6, s6, g7, s7, g8, s8, g9, s9, g10, s10, g11, s11, g12, s12, g13, s13, g14, g15, g16, g17, g18, g19, g20, g21, g22, g23, g24, g25, g26, s26, g27, s27, ai1, aw1, ae1, as1, ai2, aw2, ae2, as2, ai3, aw3, ae3, as3, ai4, aw4, ae4, as4, ai5, aw5, ae5, as5, ai6, aw6, ae6, as6, ai7, aw7, ae7, as7, ai8, aw8, ae8, as8, ai9, aw9, ae9, as9, ai10, aw10, ae10, as10, ai11, aw11, ae11, as11, ai12, aw12, ae12, as12, ai13, aw13, ae13, as13, ai14, aw14, ae14, as14, ai15, aw15, ae15, as15, sI_fB, sA_fB, sB_fB, e0, e1, e2, e6, e7, e8, n3, l0, l1, hA, hBC, hc, d1, d0, Int64.mul_zero, Int64.zero_mul, Int64.sub_zero, Int64.zero_sub, Int64.sub_self, Int64.mul_neg, Int64.neg_neg, n64, Int64.neg_mul, o64, Int64.one_mul]
  refine hq _ ⟨fun k hk => ?_, fun t i ht => ?_, fun t i ht => ?_⟩
  · simp only [sI_uI, sI_uJ, sI_uA, sI_uB, sI_fB, eq_false hk, if_false]
  · simp only [sA_uI, sA_uJ, sA_uA, sA_uB, sA_fB, eq_false ht, false_and, if_false]
  · simp only [sB_uI, sB_uJ, sB_uA, sB_uB, sB_fB, eq_false ht, false_and, if_false]
end G

section H
variable {lw : LW} {H : AH} {p j : Nat} {s s' s'' : St} {Q : Option Value → AH → Prop} {a b c d x y cx cy dp dq dr ds : Int32} {A B C D X Y Z : Int64} {h : Nat → Cel} {k n : Nat}
theorem of64 {a : Nat} (h : a < 1000000) : (Int64.ofNat a).toInt = a := Int64.toInt_ofNat_of_lt (by omega)
theorem rem64 {a b : Nat} (ha : a < 1000000) (hb : b < 1000000) : Int64.ofNat a % Int64.ofNat b = Int64.ofNat (a % b) := by
  have : a % b ≤ a := Nat.mod_le _ _
  rw [eq64, Int64.toInt_mod, of64 ha, of64 hb, of64 (by omega)]; exact (Int.tmod_eq_emod_of_nonneg (by omega)).trans rfl
theorem div64 {a b : Nat} (ha : a < 1000000) (hb : b < 1000000) : Int64.ofNat a / Int64.ofNat b = Int64.ofNat (a / b) := by
  have : a / b ≤ a := Nat.div_le_self _ _
  rw [eq64, Int64.toInt_div, of64 ha, of64 hb, of64 (by omega)]
  have e : (a : Int) / (b : Int) = ((a / b : Nat) : Int) := (Int.natCast_ediv a b).symm
  rw [Int.tdiv_eq_ediv_of_nonneg (by omega), e]
  generalize a / b = q at *
  exact Int.bmod_eq_of_le (by omega) (by omega)
theorem mul64 {a b : Nat} (h : a * b < 1000000) : Int64.ofNat a * Int64.ofNat b = Int64.ofNat (a * b) := (Int64.ofNat_mul a b).symm
theorem z64o : Int64.ofNat 0 = 0 := rfl
theorem ne64 {a : Nat} (h : a < 1000000) (h0 : a ≠ 0) : ¬ Int64.ofNat a = 0 := by rw [← z64o, eq64, of64 h, of64 (by decide)]; omega
theorem lt64 {a : Nat} (h : a < 1000000) : ¬ Int64.ofNat a < 0 := by rw [Int64.lt_iff_toInt_lt, of64 h]; simp
theorem gt64 {a : Nat} (h : a < 1000000) (h0 : a ≠ 0) : 0 < Int64.ofNat a := by rw [Int64.lt_iff_toInt_lt, of64 h]; show (0 : Int) < a; omega
theorem l46 (m : Nat) : ∀ (u v : Nat) (it : Int32) (z1 z2 : Slot), v ≤ m → u < 1000000 → v < 1000000 → it.toInt + m ≤ 199 → 0 ≤ it.toInt → ((z1 = .unset ∧ z2 = .unset) ∨ ∃ w, z1 = .val (.long w) ∧ z2 = .second) → Q (some (.long (Int64.ofNat (Nat.gcd u v)))) H →
    W (pj lw) 46 9 [.val (.ref p), .val (.long X), .second, .val (.long Y), .second, .val (.long (Int64.ofNat u)), .second, .val (.long (Int64.ofNat v)), .second, .val (.int it), z1, z2] [] k n H Q := by
  induction m with
  | zero =>
    intro u v it z1 z2 hv hu hv2 hit h0 hz hq
    obtain rfl : v = 0 := by omega
    have h1 : it < 200 := by rw [lt32]; simp only [Int32.reduceToInt]; omega
    rw [Nat.gcd_zero_right] at hq
    rw [w46_9]; simp +decide only [w46_0, w46_1uu, w46_3, w46_4uu, w46_6, w46_7, w46_11, w46_14, w46_17, w46_19, w46_20, w46_21, w46_24, w46_26, w46_28, w46_29j, w46_29uu, w46_31, w46_33j, w46_35, w46_37j, w46_39, w46_42, w46_45, w46_47, zr_z0, zr_uI, zr_uJ, isO_put, isOw_put, put_fst, okv_int, okv_long, okv_ref, okv_bool, okv_byte, cat1_unset, cat1_int, cat1_ref, cs_nil, cs_int, cs_ref, cs_long, cmpL_lt, cmpL_gt, cmpL_eq, sI_uI, sI_uJ, sI_uA, sI_uB, sJ_uI, sJ_uJ, sJ_uA, sJ_uB, sA_uI, sA_uJ, sA_uA, sA_uB, sB_uI, sB_uJ, sB_uA, sB_uB, sI_fA, sJ_fA, sA_fA, sB_fA, sI_z0, sJ_z0, sA_z0, sB_z0, Option.toList_some, Option.toList_none, List.cons_append, List.nil_append, true_and, and_true, false_and, and_false, or_false, false_or, or_true, true_or, not_true_eq_false, not_false_eq_true, ↓reduceIte, Nat.reduceAdd, Nat.reduceLeDiff, Nat.reduceEqDiff, Nat.reduceSub, Int32.reduceAdd, Int32.reduceSub, Int32.reduceMul, Int32.reduceToNatClampNeg, Int64.reduceAdd, Int64.reduceSub, Int64.reduceMul, Int64.reduceLT, Int32.reduceLT, Int32.reduceToInt, Nat.add_zero, Nat.zero_add, Nat.le_refl, eq_self, implies_true, ne_eq, h1, z64o]; exact hq
  | succ m ih =>
    intro u v it z1 z2 hv hu hv2 hit h0 hz hq
    have h1 : it < 200 := by rw [lt32]; simp only [Int32.reduceToInt]; omega
    have h2 : (it + 1).toInt = it.toInt + 1 := ia (by simp only [Int32.reduceToInt]; omega) (by simp only [Int32.reduceToInt]; omega)
    by_cases q : v = 0
    · subst q
      rw [Nat.gcd_zero_right] at hq
      rw [w46_9]; simp +decide only [w46_0, w46_1uu, w46_3, w46_4uu, w46_6, w46_7, w46_11, w46_14, w46_17, w46_19, w46_20, w46_21, w46_24, w46_26, w46_28, w46_29j, w46_29uu, w46_31, w46_33j, w46_35, w46_37j, w46_39, w46_42, w46_45, w46_47, zr_z0, zr_uI, zr_uJ, isO_put, isOw_put, put_fst, okv_int, okv_long, okv_ref, okv_bool, okv_byte, cat1_unset, cat1_int, cat1_ref, cs_nil, cs_int, cs_ref, cs_long, cmpL_lt, cmpL_gt, cmpL_eq, sI_uI, sI_uJ, sI_uA, sI_uB, sJ_uI, sJ_uJ, sJ_uA, sJ_uB, sA_uI, sA_uJ, sA_uA, sA_uB, sB_uI, sB_uJ, sB_uA, sB_uB, sI_fA, sJ_fA, sA_fA, sB_fA, sI_z0, sJ_z0, sA_z0, sB_z0, Option.toList_some, Option.toList_none, List.cons_append, List.nil_append, true_and, and_true, false_and, and_false, or_false, false_or, or_true, true_or, not_true_eq_false, not_false_eq_true, ↓reduceIte, Nat.reduceAdd, Nat.reduceLeDiff, Nat.reduceEqDiff, Nat.reduceSub, Int32.reduceAdd, Int32.reduceSub, Int32.reduceMul, Int32.reduceToNatClampNeg, Int64.reduceAdd, Int64.reduceSub, Int64.reduceMul, Int64.reduceLT, Int32.reduceLT, Int32.reduceToInt, Nat.add_zero, Nat.zero_add, Nat.le_refl, eq_self, implies_true, ne_eq, h1, z64o]; exact hq
    · have n0 := ne64 hv2 q
      have lt := Nat.mod_lt u (Nat.pos_of_ne_zero q)
      have g : Nat.gcd v (u % v) = Nat.gcd u v := by rw [Nat.gcd_comm u v, Nat.gcd_rec v u, Nat.gcd_comm]
      have key := ih v (u % v) (it + 1) (.val (.long (Int64.ofNat (u % v)))) .second (by omega) hv2 (by omega) (by omega) (by omega) (Or.inr ⟨_, rfl, rfl⟩) (by rw [g]; exact hq)
      rw [w46_9]
      rcases hz with ⟨rfl, rfl⟩ | ⟨w, rfl, rfl⟩
      · simp +decide only [w46_0, w46_1uu, w46_3, w46_4uu, w46_6, w46_7, w46_11, w46_14, w46_17, w46_19, w46_20, w46_21, w46_24, w46_26, w46_28, w46_29j, w46_29uu, w46_31, w46_33j, w46_35, w46_37j, w46_39, w46_42, w46_45, w46_47, zr_z0, zr_uI, zr_uJ, isO_put, isOw_put, put_fst, okv_int, okv_long, okv_ref, okv_bool, okv_byte, cat1_unset, cat1_int, cat1_ref, cs_nil, cs_int, cs_ref, cs_long, cmpL_lt, cmpL_gt, cmpL_eq, sI_uI, sI_uJ, sI_uA, sI_uB, sJ_uI, sJ_uJ, sJ_uA, sJ_uB, sA_uI, sA_uJ, sA_uA, sA_uB, sB_uI, sB_uJ, sB_uA, sB_uB, sI_fA, sJ_fA, sA_fA, sB_fA, sI_z0, sJ_z0, sA_z0, sB_z0, Option.toList_some, Option.toList_none, List.cons_append, List.nil_append, true_and, and_true, false_and, and_false, or_false, false_or, or_true, true_or, not_true_eq_false, not_false_eq_true, ↓reduceIte, Nat.reduceAdd, Nat.reduceLeDiff, Nat.reduceEqDiff, Nat.reduceSub, Int32.reduceAdd, Int32.reduceSub, Int32.reduceMul, Int32.reduceToNatClampNeg, Int64.reduceAdd, Int64.reduceSub, Int64.reduceMul, Int64.reduceLT, Int32.reduceLT, Int32.reduceToInt, Nat.add_zero, Nat.zero_add, Nat.le_refl, eq_self, implies_true, ne_eq, h1, n0, rem64 hu hv2]; exact key
      · simp +decide only [w46_0, w46_1uu, w46_3, w46_4uu, w46_6, w46_7, w46_11, w46_14, w46_17, w46_19, w46_20, w46_21, w46_24, w46_26, w46_28, w46_29j, w46_29uu, w46_31, w46_33j, w46_35, w46_37j, w46_39, w46_42, w46_45, w46_47, zr_z0, zr_uI, zr_uJ, isO_put, isOw_put, put_fst, okv_int, okv_long, okv_ref, okv_bool, okv_byte, cat1_unset, cat1_int, cat1_ref, cs_nil, cs_int, cs_ref, cs_long, cmpL_lt, cmpL_gt, cmpL_eq, sI_uI, sI_uJ, sI_uA, sI_uB, sJ_uI, sJ_uJ, sJ_uA, sJ_uB, sA_uI, sA_uJ, sA_uA, sA_uB, sB_uI, sB_uJ, sB_uA, sB_uB, sI_fA, sJ_fA, sA_fA, sB_fA, sI_z0, sJ_z0, sA_z0, sB_z0, Option.toList_some, Option.toList_none, List.cons_append, List.nil_append, true_and, and_true, false_and, and_false, or_false, false_or, or_true, true_or, not_true_eq_false, not_false_eq_true, ↓reduceIte, Nat.reduceAdd, Nat.reduceLeDiff, Nat.reduceEqDiff, Nat.reduceSub, Int32.reduceAdd, Int32.reduceSub, Int32.reduceMul, Int32.reduceToNatClampNeg, Int64.reduceAdd, Int64.reduceSub, Int64.reduceMul, Int64.reduceLT, Int32.reduceLT, Int32.reduceToInt, Nat.add_zero, Nat.zero_add, Nat.le_refl, eq_self, implies_true, ne_eq, h1, n0, rem64 hu hv2]; exact key
theorem t46 {u v : Nat} (hu : u < 1000000) (hv : v ≤ 190) (hq : Q (some (.long (Int64.ofNat (Nat.gcd u v)))) H) : Cl (pj lw) 46 [.ref p, .long (Int64.ofNat u), .long (Int64.ofNat v)] H Q := by
  rw [c46]; simp +decide only [w46_0, w46_1uu, w46_3, w46_4uu, w46_6, w46_7, zr_z0, zr_uI, zr_uJ, isO_put, isOw_put, put_fst, okv_int, okv_long, okv_ref, okv_bool, okv_byte, cat1_unset, cat1_int, cat1_ref, cs_nil, cs_int, cs_ref, cs_long, cmpL_lt, cmpL_gt, cmpL_eq, sI_uI, sI_uJ, sI_uA, sI_uB, sJ_uI, sJ_uJ, sJ_uA, sJ_uB, sA_uI, sA_uJ, sA_uA, sA_uB, sB_uI, sB_uJ, sB_uA, sB_uB, sI_fA, sJ_fA, sA_fA, sB_fA, sI_z0, sJ_z0, sA_z0, sB_z0, Option.toList_some, Option.toList_none, List.cons_append, List.nil_append, true_and, and_true, false_and, and_false, or_false, false_or, or_true, true_or, not_true_eq_false, not_false_eq_true, ↓reduceIte, Nat.reduceAdd, Nat.reduceLeDiff, Nat.reduceEqDiff, Nat.reduceSub, Int32.reduceAdd, Int32.reduceSub, Int32.reduceMul, Int32.reduceToNatClampNeg, Int64.reduceAdd, Int64.reduceSub, Int64.reduceMul, Int64.reduceLT, Int32.reduceLT, Int32.reduceToInt, Nat.add_zero, Nat.zero_add, Nat.le_refl, eq_self, implies_true, ne_eq]
  exact l46 v u v 0 .unset .unset (Nat.le_refl _) hu (by omega) (by simp only [Int32.reduceToInt]; omega) (by decide) (Or.inl ⟨rfl, rfl⟩) hq
set_option maxRecDepth 100000 in
set_option maxHeartbeats 4000000 in
theorem v45 {u v w : Nat} (n3 : sI s 11 = 3) (h0 : sB s 15 0 = Int64.ofNat u) (h1 : sB s 15 1 = Int64.ofNat v) (h2 : sB s 15 2 = Int64.ofNat w) (u0 : 0 < u ∧ u ≤ 100) (v0 : 0 < v ∧ v ≤ 100) (w0 : 0 < w ∧ w ≤ 100)
    (hq : ∀ s', (∀ k, sI s' k = sI s k) → (∀ t i, sA s' t i = sA s t i) → (sB s' 7 0 = Int64.ofNat (u / Nat.gcd (Nat.gcd u v) w) ∧ sB s' 7 1 = Int64.ofNat (v / Nat.gcd (Nat.gcd u v) w) ∧ sB s' 7 2 = Int64.ofNat (w / Nat.gcd (Nat.gcd u v) w)) → Q (some (.int 1)) (ob H p s')) : Cl (pj lw) 45 [.ref p] (ob H p s) Q := by
  have x0 := lt64 (a := u) (by omega)
  have x1 := lt64 (a := v) (by omega)
  have x2 := lt64 (a := w) (by omega)
  have y0 := gt64 (a := u) (by omega) (by omega)
  have y1 := gt64 (a := v) (by omega) (by omega)
  have y2 := gt64 (a := w) (by omega) (by omega)
  have gp : 0 < Nat.gcd (Nat.gcd u v) w := Nat.gcd_pos_of_pos_right _ w0.1
  have gl : Nat.gcd (Nat.gcd u v) w ≤ w := Nat.gcd_le_right _ w0.1
  have gl2 : Nat.gcd u v ≤ v := Nat.gcd_le_right _ v0.1
  have yg := gt64 (a := Nat.gcd (Nat.gcd u v) w) (by omega) (by omega)
  have ng := ne64 (a := Nat.gcd (Nat.gcd u v) w) (by omega) (by omega)
  rw [c45]
  simp +decide only [w45_0, w45_1uu, w45_2, w45_3, w45_5, w45_6, w45_9, w45_12, w45_13, w45_15, w45_18, w45_19, w45_22, w45_23, w45_24, w45_25, w45_26, w45_29, w45_30, w45_33, w45_34, w45_35, w45_36, w45_39, w45_40, w45_43, w45_44, w45_45j, w45_45uu, w45_47, w45_48, w45_49, w45_51, w45_54j, w45_55, w45_58, w45_4, zr_z0, zr_uI, zr_uJ, isO_put, isOw_put, put_fst, okv_int, okv_long, okv_ref, okv_bool, okv_byte, cat1_unset, cat1_int, cat1_ref, cs_nil, cs_int, cs_ref, cs_long, cmpL_lt, cmpL_gt, cmpL_eq, sI_uI, sI_uJ, sI_uA, sI_uB, sJ_uI, sJ_uJ, sJ_uA, sJ_uB, sA_uI, sA_uJ, sA_uA, sA_uB, sB_uI, sB_uJ, sB_uA, sB_uB, sI_fA, sJ_fA, sA_fA, sB_fA, sI_z0, sJ_z0, sA_z0, sB_z0, Option.toList_some, Option.toList_none, List.cons_append, List.nil_append, true_and, and_true, false_and, and_false, or_false, false_or, or_true, true_or, not_true_eq_false, not_false_eq_true, ↓reduceIte, Nat.reduceAdd, Nat.reduceLeDiff, Nat.reduceEqDiff, Nat.reduceSub, Int32.reduceAdd, Int32.reduceSub, Int32.reduceMul, Int32.reduceToNatClampNeg, Int64.reduceAdd, Int64.reduceSub, Int64.reduceMul, Int64.reduceLT, Int32.reduceLT, Int32.reduceToInt, Nat.add_zero, Nat.zero_add, Nat.le_refl, eq_self, implies_true, ne_eq, g0, s0, g1, s1, g2, g3, s3, g4, g5, g6, s6, g7, s7, g8, s8, g9, s9, g10, s10, g11, s11, g12, s12, g13, s13, g14, g15, g16, g17, g18, g19, g20, g21, g22, g23, g24, g25, g26, s26, g27, s27, ai1, aw1, ae1, as1, ai2, aw2, ae2, as2, ai3, aw3, ae3, as3, ai4, aw4, ae4, as4, ai5, aw5, ae5, as5, ai6, aw6, ae6, as6, ai7, aw7, ae7, as7, ai8, aw8, ae8, as8, ai9, aw9, ae9, as9, ai10, aw10, ae10, as10, ai11, aw11, ae11, as11, ai12, aw12, ae12, as12, ai13, aw13, ae13, as13, ai14, aw14, ae14, as14, ai15, aw15, ae15, as15, n3, h0, x0]
  rw [show (0 : Int64) = Int64.ofNat 0 from rfl]
  refine t46 (by decide) (by omega) ?_
  rw [Nat.gcd_zero_left]
  simp +decide only [w45_0, w45_1uu, w45_2, w45_3, w45_5, w45_6, w45_9, w45_12, w45_13, w45_15, w45_18, w45_19, w45_22, w45_23, w45_24, w45_25, w45_26, w45_29, w45_30, w45_33, w45_34, w45_35, w45_36, w45_39, w45_40, w45_43, w45_44, w45_45j, w45_45uu, w45_47, w45_48, w45_49, w45_51, w45_54j, w45_55, w45_58, w45_4, zr_z0, zr_uI, zr_uJ, isO_put, isOw_put, put_fst, okv_int, okv_long, okv_ref, okv_bool, okv_byte, cat1_unset, cat1_int, cat1_ref, cs_nil, cs_int, cs_ref, cs_long, cmpL_lt, cmpL_gt, cmpL_eq, sI_uI, sI_uJ, sI_uA, sI_uB, sJ_uI, sJ_uJ, sJ_uA, sJ_uB, sA_uI, sA_uJ, sA_uA, sA_uB, sB_uI, sB_uJ, sB_uA, sB_uB, sI_fA, sJ_fA, sA_fA, sB_fA, sI_z0, sJ_z0, sA_z0, sB_z0, Option.toList_some, Option.toList_none, List.cons_append, List.nil_append, true_and, and_true, false_and, and_false, or_false, false_or, or_true, true_or, not_true_eq_false, not_false_eq_true, ↓reduceIte, Nat.reduceAdd, Nat.reduceLeDiff, Nat.reduceEqDiff, Nat.reduceSub, Int32.reduceAdd, Int32.reduceSub, Int32.reduceMul, Int32.reduceToNatClampNeg, Int64.reduceAdd, Int64.reduceSub, Int64.reduceMul, Int64.reduceLT, Int32.reduceLT, Int32.reduceToInt, Nat.add_zero, Nat.zero_add, Nat.le_refl, eq_self, implies_true, ne_eq, g0, s0, g1, s1, g2, g3, s3, g4, g5, g6, s6, g7, s7, g8, s8, g9, s9, g10, s10, g11, s11, g12, s12, g13, s13, g14, g15, g16, g17, g18, g19, g20, g21, g22, g23, g24, g25, g26, s26, g27, s27, ai1, aw1, ae1, as1, ai2, aw2, ae2, as2, ai3, aw3, ae3, as3, ai4, aw4, ae4, as4, ai5, aw5, ae5, as5, ai6, aw6, ae6, as6, ai7, aw7, ae7, as7, ai8, aw8, ae8, as8, ai9, aw9, ae9, as9, ai10, aw10, ae10, as10, ai11, aw11, ae11, as11, ai12, aw12, ae12, as12, ai13, aw13, ae13, as13, ai14, aw14, ae14, as14, ai15, aw15, ae15, as15, n3, h1, x1]
  refine t46 (by omega) (by omega) ?_
  simp +decide only [w45_0, w45_1uu, w45_2, w45_3, w45_5, w45_6, w45_9, w45_12, w45_13, w45_15, w45_18, w45_19, w45_22, w45_23, w45_24, w45_25, w45_26, w45_29, w45_30, w45_33, w45_34, w45_35, w45_36, w45_39, w45_40, w45_43, w45_44, w45_45j, w45_45uu, w45_47, w45_48, w45_49, w45_51, w45_54j, w45_55, w45_58, w45_4, zr_z0, zr_uI, zr_uJ, isO_put, isOw_put, put_fst, okv_int, okv_long, okv_ref, okv_bool, okv_byte, cat1_unset, cat1_int, cat1_ref, cs_nil, cs_int, cs_ref, cs_long, cmpL_lt, cmpL_gt, cmpL_eq, sI_uI, sI_uJ, sI_uA, sI_uB, sJ_uI, sJ_uJ, sJ_uA, sJ_uB, sA_uI, sA_uJ, sA_uA, sA_uB, sB_uI, sB_uJ, sB_uA, sB_uB, sI_fA, sJ_fA, sA_fA, sB_fA, sI_z0, sJ_z0, sA_z0, sB_z0, Option.toList_some, Option.toList_none, List.cons_append, List.nil_append, true_and, and_true, false_and, and_false, or_false, false_or, or_true, true_or, not_true_eq_false, not_false_eq_true, ↓reduceIte, Nat.reduceAdd, Nat.reduceLeDiff, Nat.reduceEqDiff, Nat.reduceSub, Int32.reduceAdd, Int32.reduceSub, Int32.reduceMul, Int32.reduceToNatClampNeg, Int64.reduceAdd, Int64.reduceSub, Int64.reduceMul, Int64.reduceLT, Int32.reduceLT, Int32.reduceToInt, Nat.add_zero, Nat.zero_add, Nat.le_refl, eq_self, implies_true, ne_eq, g0, s0, g1, s1, g2, g3, s3, g4, g5, g6, s6, g7, s7, g8, s8, g9, s9, g10, s10, g11, s11, g12, s12, g13, s13, g14, g15, g16, g17, g18, g19, g20, g21, g22, g23, g24, g25, g26, s26, g27, s27, ai1, aw1, ae1, as1, ai2, aw2, ae2, as2, ai3, aw3, ae3, as3, ai4, aw4, ae4, as4, ai5, aw5, ae5, as5, ai6, aw6, ae6, as6, ai7, aw7, ae7, as7, ai8, aw8, ae8, as8, ai9, aw9, ae9, as9, ai10, aw10, ae10, as10, ai11, aw11, ae11, as11, ai12, aw12, ae12, as12, ai13, aw13, ae13, as13, ai14, aw14, ae14, as14, ai15, aw15, ae15, as15, n3, h2, x2]
  refine t46 (by omega) (by omega) ?_
  generalize Nat.gcd (Nat.gcd u v) w = g at *
  simp +decide only [w45_0, w45_1uu, w45_2, w45_3, w45_5, w45_6, w45_9, w45_12, w45_13, w45_15, w45_18, w45_19, w45_22, w45_23, w45_24, w45_25, w45_26, w45_29, w45_30, w45_33, w45_34, w45_35, w45_36, w45_39, w45_40, w45_43, w45_44, w45_45j, w45_45uu, w45_47, w45_48, w45_49, w45_51, w45_54j, w45_55, w45_58, w45_4, zr_z0, zr_uI, zr_uJ, isO_put, isOw_put, put_fst, okv_int, okv_long, okv_ref, okv_bool, okv_byte, cat1_unset, cat1_int, cat1_ref, cs_nil, cs_int, cs_ref, cs_long, cmpL_lt, cmpL_gt, cmpL_eq, sI_uI, sI_uJ, sI_uA, sI_uB, sJ_uI, sJ_uJ, sJ_uA, sJ_uB, sA_uI, sA_uJ, sA_uA, sA_uB, sB_uI, sB_uJ, sB_uA, sB_uB, sI_fA, sJ_fA, sA_fA, sB_fA, sI_z0, sJ_z0, sA_z0, sB_z0, Option.toList_some, Option.toList_none, List.cons_append, List.nil_append, true_and, and_true, false_and, and_false, or_false, false_or, or_true, true_or, not_true_eq_false, not_false_eq_true, ↓reduceIte, Nat.reduceAdd, Nat.reduceLeDiff, Nat.reduceEqDiff, Nat.reduceSub, Int32.reduceAdd, Int32.reduceSub, Int32.reduceMul, Int32.reduceToNatClampNeg, Int64.reduceAdd, Int64.reduceSub, Int64.reduceMul, Int64.reduceLT, Int32.reduceLT, Int32.reduceToInt, Nat.add_zero, Nat.zero_add, Nat.le_refl, eq_self, implies_true, ne_eq, g0, s0, g1, s1, g2, g3, s3, g4, g5, g6, s6, g7, s7, g8, s8, g9, s9, g10, s10, g11, s11, g12, s12, g13, s13, g14, g15, g16, g17, g18, g19, g20, g21, g22, g23, g24, g25, g26, s26, g27, s27, ai1, aw1, ae1, as1, ai2, aw2, ae2, as2, ai3, aw3, ae3, as3, ai4, aw4, ae4, as4, ai5, aw5, ae5, as5, ai6, aw6, ae6, as6, ai7, aw7, ae7, as7, ai8, aw8, ae8, as8, ai9, aw9, ae9, as9, ai10, aw10, ae10, as10, ai11, aw11, ae11, as11, ai12, aw12, ae12, as12, ai13, aw13, ae13, as13, ai14, aw14, ae14, as14, ai15, aw15, ae15, as15, n3]
  refine W_fa 4 rfl ?_
  show W (pj lw) 45 61 [.val (.ref p), .val (.long (Int64.ofNat g)), .second, .val (.int 3), .unset, .unset, .unset, .unset] [] 0 0 (ob H p s) Q
  simp +decide only [w45_0, w45_1uu, w45_2, w45_3, w45_5, w45_6, w45_9, w45_12, w45_13, w45_15, w45_18, w45_19, w45_22, w45_23, w45_24, w45_25, w45_26, w45_29, w45_30, w45_33, w45_34, w45_35, w45_36, w45_39, w45_40, w45_43, w45_44, w45_45j, w45_45uu, w45_47, w45_48, w45_49, w45_51, w45_54j, w45_55, w45_58, w45_61, w45_62, w45_63, w45_64, w45_67, w45_68, w45_69, w45_70, w45_73, w45_74, w45_75, w45_76, w45_77, w45_80, w45_83, w45_86, w45_87iu, w45_88, w45_89, w45_93, w45_94, w45_97, w45_100, w45_102, w45_104, w45_107, w45_108, w45_111, w45_113, w45_114, w45_115, w45_116j, w45_116uu, w45_118, w45_120, w45_121, w45_122, w45_125, w45_126, w45_127, w45_128, w45_131, w45_133, w45_135, w45_136, w45_137, w45_138, w45_141, w45_144, w45_145, w45_4, w45_91, zr_z0, zr_uI, zr_uJ, isO_put, isOw_put, put_fst, okv_int, okv_long, okv_ref, okv_bool, okv_byte, cat1_unset, cat1_int, cat1_ref, cs_nil, cs_int, cs_ref, cs_long, cmpL_lt, cmpL_gt, cmpL_eq, sI_uI, sI_uJ, sI_uA, sI_uB, sJ_uI, sJ_uJ, sJ_uA, sJ_uB, sA_uI, sA_uJ, sA_uA, sA_uB, sB_uI, sB_uJ, sB_uA, sB_uB, sI_fA, sJ_fA, sA_fA, sB_fA, sI_z0, sJ_z0, sA_z0, sB_z0, Option.toList_some, Option.toList_none, List.cons_append, List.nil_append, true_and, and_true, false_and, and_false, or_false, false_or, or_true, true_or, not_true_eq_false, not_false_eq_true, ↓reduceIte, Nat.reduceAdd, Nat.reduceLeDiff, Nat.reduceEqDiff, Nat.reduceSub, Int32.reduceAdd, Int32.reduceSub, Int32.reduceMul, Int32.reduceToNatClampNeg, Int64.reduceAdd, Int64.reduceSub, Int64.reduceMul, Int64.reduceLT, Int32.reduceLT, Int32.reduceToInt, Nat.add_zero, Nat.zero_add, Nat.le_refl, eq_self, implies_true, ne_eq, g0, s0, g1, s1, g2, g3, s3, g4, g5, g6, s6, g7, s7, g8, s8, g9, s9, g10, s10, g11, s11, g12, s12, g13, s13, g14, g15, g16, g17, g18, g19, g20, g21, g22, g23, g24, g25, g26, s26, g27, s27, ai1, aw1, ae1, as1, ai2, aw2, ae2, as2, ai3, aw3, ae3, as3, ai4, aw4, ae4, as4, ai5, aw5, ae5, as5, ai6, aw6, ae6, as6, ai7, aw7, ae7, as7, ai8, aw8, ae8, as8, ai9, aw9, ae9, as9, ai10, aw10, ae10, as10, ai11, aw11, ae11, as11, ai12, aw12, ae12, as12, ai13, aw13, ae13, as13, ai14, aw14, ae14, as14, ai15, aw15, ae15, as15, n3, h0, h1, h2, x0, yg, ng, y0, y1, y2, Int64.mul_one, div64 (a := u) (b := g) (by omega) (by omega), div64 (a := v) (b := g) (by omega) (by omega), div64 (a := w) (b := g) (by omega) (by omega)]
  refine hq _ (fun k => ?_) (fun t i => ?_) ⟨?_, ?_, ?_⟩ <;> simp +decide only [zr_z0, zr_uI, zr_uJ, isO_put, isOw_put, put_fst, okv_int, okv_long, okv_ref, okv_bool, okv_byte, cat1_unset, cat1_int, cat1_ref, cs_nil, cs_int, cs_ref, cs_long, cmpL_lt, cmpL_gt, cmpL_eq, sI_uI, sI_uJ, sI_uA, sI_uB, sJ_uI, sJ_uJ, sJ_uA, sJ_uB, sA_uI, sA_uJ, sA_uA, sA_uB, sB_uI, sB_uJ, sB_uA, sB_uB, sI_fA, sJ_fA, sA_fA, sB_fA, sI_z0, sJ_z0, sA_z0, sB_z0, Option.toList_some, Option.toList_none, List.cons_append, List.nil_append, true_and, and_true, false_and, and_false, or_false, false_or, or_true, true_or, not_true_eq_false, not_false_eq_true, ↓reduceIte, Nat.reduceAdd, Nat.reduceLeDiff, Nat.reduceEqDiff, Nat.reduceSub, Int32.reduceAdd, Int32.reduceSub, Int32.reduceMul, Int32.reduceToNatClampNeg, Int64.reduceAdd, Int64.reduceSub, Int64.reduceMul, Int64.reduceLT, Int32.reduceLT, Int32.reduceToInt, Nat.add_zero, Nat.zero_add, Nat.le_refl, eq_self, implies_true, ne_eq]
set_option maxRecDepth 100000 in
set_option maxHeartbeats 4000000 in
theorem v42 {u v w z : Nat} (n3 : sI s 11 = 3) (p0 : sA s 13 0 = 0) (p1 : sA s 13 1 = 1) (G : G2 s (Int64.ofNat u) (Int64.ofNat v) (Int64.ofNat w) (Int64.ofNat z)) (u0 : 0 < u ∧ u ≤ 9) (v0 : 0 < v ∧ v ≤ 9) (w0 : 0 < w ∧ w ≤ 9) (z0 : 0 < z ∧ z ≤ 9)
    (hq : ∀ s', (∀ k, k ≠ 26 → sI s' k = sI s k) → (∀ t i, t ≠ 13 → t ≠ 14 → sA s' t i = sA s t i) → (sB s' 7 0 = Int64.ofNat (w * z / Nat.gcd (Nat.gcd (w * z) (u * z)) (v * w)) ∧ sB s' 7 1 = Int64.ofNat (u * z / Nat.gcd (Nat.gcd (w * z) (u * z)) (v * w)) ∧ sB s' 7 2 = Int64.ofNat (v * w / Nat.gcd (Nat.gcd (w * z) (u * z)) (v * w))) → Q (some (.int 1)) (ob H p s')) : Cl (pj lw) 42 [.ref p, .int 2] (ob H p s) Q := by
  have bd : ∀ a b : Nat, (0 < a ∧ a ≤ 9) → (0 < b ∧ b ≤ 9) → 0 < a * b ∧ a * b ≤ 81 := fun a b ha hb => ⟨Nat.mul_pos ha.1 hb.1, Nat.mul_le_mul ha.2 hb.2⟩
  have wz := bd w z w0 z0
  have uz := bd u z u0 z0
  have vw := bd v w v0 w0
  have e1 : Int64.ofNat w * Int64.ofNat z = Int64.ofNat (w * z) := mul64 (by omega)
  have e2 : Int64.ofNat u * Int64.ofNat z = Int64.ofNat (u * z) := mul64 (by omega)
  have e3 : Int64.ofNat v * Int64.ofNat w = Int64.ofNat (v * w) := mul64 (by omega)
  have nz : ∀ a : Nat, 0 < a → a ≤ 100 → (Int64.ofNat a = 0) = False := fun a h1 h2 => eq_false (ne64 (by omega) (by omega))
  have cm := Int64.mul_comm (Int64.ofNat v) (Int64.ofNat u)
  rw [c42]
  simp +decide only [w42_0, w42_1, w42_3, w42_4, w42_7, w42_8, w42_10, w42_13, w42_14, w42_17, w42_18, w42_19, w42_22, w42_23, w42_24, w42_25, w42_28, w42_31, w42_32i, w42_34, w42_35, w42_38, w42_41, w42_42, w42_44, w42_47, w42_48, w42_51, w42_52, w42_53, w42_54, w42_55, w42_2, w42_33, zr_z0, zr_uI, zr_uJ, isO_put, isOw_put, put_fst, okv_int, okv_long, okv_ref, okv_bool, okv_byte, cat1_unset, cat1_int, cat1_ref, cs_nil, cs_int, cs_ref, cs_long, cmpL_lt, cmpL_gt, cmpL_eq, sI_uI, sI_uJ, sI_uA, sI_uB, sJ_uI, sJ_uJ, sJ_uA, sJ_uB, sA_uI, sA_uJ, sA_uA, sA_uB, sB_uI, sB_uJ, sB_uA, sB_uB, sI_fA, sJ_fA, sA_fA, sB_fA, sI_z0, sJ_z0, sA_z0, sB_z0, Option.toList_some, Option.toList_none, List.cons_append, List.nil_append, true_and, and_true, false_and, and_false, or_false, false_or, or_true, true_or, not_true_eq_false, not_false_eq_true, ↓reduceIte, Nat.reduceAdd, Nat.reduceLeDiff, Nat.reduceEqDiff, Nat.reduceSub, Int32.reduceAdd, Int32.reduceSub, Int32.reduceMul, Int32.reduceToNatClampNeg, Int64.reduceAdd, Int64.reduceSub, Int64.reduceMul, Int64.reduceLT, Int32.reduceLT, Int32.reduceToInt, Nat.add_zero, Nat.zero_add, Nat.le_refl, eq_self, implies_true, ne_eq, g0, s0, g1, s1, g2, g3, s3, g4, g5, g6, s6, g7, s7, g8, s8, g9, s9, g10, s10, g11, s11, g12, s12, g13, s13, g14, g15, g16, g17, g18, g19, g20, g21, g22, g23, g24, g25, g26, s26, g27, s27, ai1, aw1, ae1, as1, ai2, aw2, ae2, as2, ai3, aw3, ae3, as3, ai4, aw4, ae4, as4, ai5, aw5, ae5, as5, ai6, aw6, ae6, as6, ai7, aw7, ae7, as7, ai8, aw8, ae8, as8, ai9, aw9, ae9, as9, ai10, aw10, ae10, as10, ai11, aw11, ae11, as11, ai12, aw12, ae12, as12, ai13, aw13, ae13, as13, ai14, aw14, ae14, as14, ai15, aw15, ae15, as15, n3, p0, p1]
  have hS : SL (uA (uA s 14 0 0) 14 1 1) := by refine ⟨?_, ?_, ?_⟩ <;> simp +decide only [zr_z0, zr_uI, zr_uJ, isO_put, isOw_put, put_fst, okv_int, okv_long, okv_ref, okv_bool, okv_byte, cat1_unset, cat1_int, cat1_ref, cs_nil, cs_int, cs_ref, cs_long, cmpL_lt, cmpL_gt, cmpL_eq, sI_uI, sI_uJ, sI_uA, sI_uB, sJ_uI, sJ_uJ, sJ_uA, sJ_uB, sA_uI, sA_uJ, sA_uA, sA_uB, sB_uI, sB_uJ, sB_uA, sB_uB, sI_fA, sJ_fA, sA_fA, sB_fA, sI_z0, sJ_z0, sA_z0, sB_z0, Option.toList_some, Option.toList_none, List.cons_append, List.nil_append, true_and, and_true, false_and, and_false, or_false, false_or, or_true, true_or, not_true_eq_false, not_false_eq_true, ↓reduceIte, Nat.reduceAdd, Nat.reduceLeDiff, Nat.reduceEqDiff, Nat.reduceSub, Int32.reduceAdd, Int32.reduceSub, Int32.reduceMul, Int32.reduceToNatClampNeg, Int64.reduceAdd, Int64.reduceSub, Int64.reduceMul, Int64.reduceLT, Int32.reduceLT, Int32.reduceToInt, Nat.add_zero, Nat.zero_add, Nat.le_refl, eq_self, implies_true, ne_eq, n3]
  have hG : G2 (uA (uA s 14 0 0) 14 1 1) (Int64.ofNat u) (Int64.ofNat v) (Int64.ofNat w) (Int64.ofNat z) := by unfold G2; simp only [sB_uA]; exact G
  have kI : ∀ k, sI (uA (uA s 14 0 0) 14 1 1) k = sI s k := fun k => by simp only [sI_uA]
  have kA : ∀ t i, t ≠ 14 → sA (uA (uA s 14 0 0) 14 1 1) t i = sA s t i := fun t i ht => by simp only [sA_uA, eq_false ht, false_and, if_false]
  generalize uA (uA s 14 0 0) 14 1 1 = σ1 at *
  refine v43_0 hS hG (nz _ w0.1 (by omega)) (nz _ z0.1 (by omega)) (by rw [e1]; exact nz _ wz.1 (by omega)) fun σ2 K2 => ?_
  have SL2 : ∀ {s s' : St}, SL s → Kp s s' → SL s' := fun {s s'} h g => ⟨by rw [g.1 _ (by decide)]; exact h.1, by rw [g.2.1 _ _ (by decide)]; exact h.2.1, by rw [g.2.1 _ _ (by decide)]; exact h.2.2⟩
  have G22 : ∀ {s s' : St}, G2 s (Int64.ofNat u) (Int64.ofNat v) (Int64.ofNat w) (Int64.ofNat z) → Kp s s' → G2 s' (Int64.ofNat u) (Int64.ofNat v) (Int64.ofNat w) (Int64.ofNat z) := fun {s s'} h g => by
    unfold G2; simp only [g.2.2 11 _ (by decide)]; exact h
  have n32 : sI σ2 11 = 3 := (SL2 hS K2).1
  simp +decide only [w42_34, w42_35, w42_38, w42_41, w42_42, w42_44, w42_47, w42_48, w42_51, w42_52, w42_53, w42_54, w42_55, w42_58, w42_59, w42_62, w42_33, zr_z0, zr_uI, zr_uJ, isO_put, isOw_put, put_fst, okv_int, okv_long, okv_ref, okv_bool, okv_byte, cat1_unset, cat1_int, cat1_ref, cs_nil, cs_int, cs_ref, cs_long, cmpL_lt, cmpL_gt, cmpL_eq, sI_uI, sI_uJ, sI_uA, sI_uB, sJ_uI, sJ_uJ, sJ_uA, sJ_uB, sA_uI, sA_uJ, sA_uA, sA_uB, sB_uI, sB_uJ, sB_uA, sB_uB, sI_fA, sJ_fA, sA_fA, sB_fA, sI_z0, sJ_z0, sA_z0, sB_z0, Option.toList_some, Option.toList_none, List.cons_append, List.nil_append, true_and, and_true, false_and, and_false, or_false, false_or, or_true, true_or, not_true_eq_false, not_false_eq_true, ↓reduceIte, Nat.reduceAdd, Nat.reduceLeDiff, Nat.reduceEqDiff, Nat.reduceSub, Int32.reduceAdd, Int32.reduceSub, Int32.reduceMul, Int32.reduceToNatClampNeg, Int64.reduceAdd, Int64.reduceSub, Int64.reduceMul, Int64.reduceLT, Int32.reduceLT, Int32.reduceToInt, Nat.add_zero, Nat.zero_add, Nat.le_refl, eq_self, implies_true, ne_eq, g0, s0, g1, s1, g2, g3, s3, g4, g5, g6, s6, g7, s7, g8, s8, g9, s9, g10, s10, g11, s11, g12, s12, g13, s13, g14, g15, g16, g17, g18, g19, g20, g21, g22, g23, g24, g25, g26, s26, g27, s27, ai1, aw1, ae1, as1, ai2, aw2, ae2, as2, ai3, aw3, ae3, as3, ai4, aw4, ae4, as4, ai5, aw5, ae5, as5, ai6, aw6, ae6, as6, ai7, aw7, ae7, as7, ai8, aw8, ae8, as8, ai9, aw9, ae9, as9, ai10, aw10, ae10, as10, ai11, aw11, ae11, as11, ai12, aw12, ae12, as12, ai13, aw13, ae13, as13, ai14, aw14, ae14, as14, ai15, aw15, ae15, as15, n32, e1]
  have hS3 : SL (uB σ2 15 0 (Int64.ofNat (w * z))) := by have := SL2 hS K2; unfold SL at this ⊢; simp only [sI_uB, sA_uB]; exact this
  have hG3 : G2 (uB σ2 15 0 (Int64.ofNat (w * z))) (Int64.ofNat u) (Int64.ofNat v) (Int64.ofNat w) (Int64.ofNat z) := by have := G22 hG K2; unfold G2 at this ⊢; simp +decide only [sB_uB, false_and, if_false]; exact this
  have kI2 : ∀ k, k ≠ 26 → sI (uB σ2 15 0 (Int64.ofNat (w * z))) k = sI s k := fun k hk => by rw [sI_uB, K2.1 k hk, kI]
  have kA2 : ∀ t i, t ≠ 13 → t ≠ 14 → sA (uB σ2 15 0 (Int64.ofNat (w * z))) t i = sA s t i := fun t i h1 h2 => by rw [sA_uB, K2.2.1 t i h1, kA t i h2]
  have b0 : sB (uB σ2 15 0 (Int64.ofNat (w * z))) 15 0 = Int64.ofNat (w * z) := by rw [sB_uB, if_pos ⟨rfl, rfl⟩]
  generalize uB σ2 15 0 (Int64.ofNat (w * z)) = σ3 at *
  refine v43_1 hS3 hG3 (nz _ u0.1 (by omega)) cm (by rw [e2]; exact nz _ uz.1 (by omega)) fun σ4 K4 => ?_
  have n34 : sI σ4 11 = 3 := (SL2 hS3 K4).1
  simp +decide only [w42_34, w42_35, w42_38, w42_41, w42_42, w42_44, w42_47, w42_48, w42_51, w42_52, w42_53, w42_54, w42_55, w42_58, w42_59, w42_62, w42_33, zr_z0, zr_uI, zr_uJ, isO_put, isOw_put, put_fst, okv_int, okv_long, okv_ref, okv_bool, okv_byte, cat1_unset, cat1_int, cat1_ref, cs_nil, cs_int, cs_ref, cs_long, cmpL_lt, cmpL_gt, cmpL_eq, sI_uI, sI_uJ, sI_uA, sI_uB, sJ_uI, sJ_uJ, sJ_uA, sJ_uB, sA_uI, sA_uJ, sA_uA, sA_uB, sB_uI, sB_uJ, sB_uA, sB_uB, sI_fA, sJ_fA, sA_fA, sB_fA, sI_z0, sJ_z0, sA_z0, sB_z0, Option.toList_some, Option.toList_none, List.cons_append, List.nil_append, true_and, and_true, false_and, and_false, or_false, false_or, or_true, true_or, not_true_eq_false, not_false_eq_true, ↓reduceIte, Nat.reduceAdd, Nat.reduceLeDiff, Nat.reduceEqDiff, Nat.reduceSub, Int32.reduceAdd, Int32.reduceSub, Int32.reduceMul, Int32.reduceToNatClampNeg, Int64.reduceAdd, Int64.reduceSub, Int64.reduceMul, Int64.reduceLT, Int32.reduceLT, Int32.reduceToInt, Nat.add_zero, Nat.zero_add, Nat.le_refl, eq_self, implies_true, ne_eq, g0, s0, g1, s1, g2, g3, s3, g4, g5, g6, s6, g7, s7, g8, s8, g9, s9, g10, s10, g11, s11, g12, s12, g13, s13, g14, g15, g16, g17, g18, g19, g20, g21, g22, g23, g24, g25, g26, s26, g27, s27, ai1, aw1, ae1, as1, ai2, aw2, ae2, as2, ai3, aw3, ae3, as3, ai4, aw4, ae4, as4, ai5, aw5, ae5, as5, ai6, aw6, ae6, as6, ai7, aw7, ae7, as7, ai8, aw8, ae8, as8, ai9, aw9, ae9, as9, ai10, aw10, ae10, as10, ai11, aw11, ae11, as11, ai12, aw12, ae12, as12, ai13, aw13, ae13, as13, ai14, aw14, ae14, as14, ai15, aw15, ae15, as15, n34, e2]
  have hS5 : SL (uB σ4 15 1 (Int64.ofNat (u * z))) := by have := SL2 hS3 K4; unfold SL at this ⊢; simp only [sI_uB, sA_uB]; exact this
  have hG5 : G2 (uB σ4 15 1 (Int64.ofNat (u * z))) (Int64.ofNat u) (Int64.ofNat v) (Int64.ofNat w) (Int64.ofNat z) := by have := G22 hG3 K4; unfold G2 at this ⊢; simp +decide only [sB_uB, false_and, if_false]; exact this
  have kI3 : ∀ k, k ≠ 26 → sI (uB σ4 15 1 (Int64.ofNat (u * z))) k = sI s k := fun k hk => by rw [sI_uB, K4.1 k hk, kI2 k hk]
  have kA3 : ∀ t i, t ≠ 13 → t ≠ 14 → sA (uB σ4 15 1 (Int64.ofNat (u * z))) t i = sA s t i := fun t i h1 h2 => by rw [sA_uB, K4.2.1 t i h1, kA2 t i h1 h2]
  have b0' : sB (uB σ4 15 1 (Int64.ofNat (u * z))) 15 0 = Int64.ofNat (w * z) := by rw [sB_uB, if_neg (by decide), K4.2.2 _ _ (by decide), b0]
  have b1' : sB (uB σ4 15 1 (Int64.ofNat (u * z))) 15 1 = Int64.ofNat (u * z) := by rw [sB_uB, if_pos ⟨rfl, rfl⟩]
  generalize uB σ4 15 1 (Int64.ofNat (u * z)) = σ5 at *
  refine v43_2 hS5 hG5 (nz _ u0.1 (by omega)) cm (by rw [e3]; exact nz _ vw.1 (by omega)) fun σ6 K6 => ?_
  have n36 : sI σ6 11 = 3 := (SL2 hS5 K6).1
  simp +decide only [w42_34, w42_35, w42_38, w42_41, w42_42, w42_44, w42_47, w42_48, w42_51, w42_52, w42_53, w42_54, w42_55, w42_58, w42_59, w42_62, w42_65, w42_66, w42_33, zr_z0, zr_uI, zr_uJ, isO_put, isOw_put, put_fst, okv_int, okv_long, okv_ref, okv_bool, okv_byte, cat1_unset, cat1_int, cat1_ref, cs_nil, cs_int, cs_ref, cs_long, cmpL_lt, cmpL_gt, cmpL_eq, sI_uI, sI_uJ, sI_uA, sI_uB, sJ_uI, sJ_uJ, sJ_uA, sJ_uB, sA_uI, sA_uJ, sA_uA, sA_uB, sB_uI, sB_uJ, sB_uA, sB_uB, sI_fA, sJ_fA, sA_fA, sB_fA, sI_z0, sJ_z0, sA_z0, sB_z0, Option.toList_some, Option.toList_none, List.cons_append, List.nil_append, true_and, and_true, false_and, and_false, or_false, false_or, or_true, true_or, not_true_eq_false, not_false_eq_true, ↓reduceIte, Nat.reduceAdd, Nat.reduceLeDiff, Nat.reduceEqDiff, Nat.reduceSub, Int32.reduceAdd, Int32.reduceSub, Int32.reduceMul, Int32.reduceToNatClampNeg, Int64.reduceAdd, Int64.reduceSub, Int64.reduceMul, Int64.reduceLT, Int32.reduceLT, Int32.reduceToInt, Nat.add_zero, Nat.zero_add, Nat.le_refl, eq_self, implies_true, ne_eq, g0, s0, g1, s1, g2, g3, s3, g4, g5, g6, s6, g7, s7, g8, s8, g9, s9, g10, s10, g11, s11, g12, s12, g13, s13, g14, g15, g16, g17, g18, g19, g20, g21, g22, g23, g24, g25, g26, s26, g27, s27, ai1, aw1, ae1, as1, ai2, aw2, ae2, as2, ai3, aw3, ae3, as3, ai4, aw4, ae4, as4, ai5, aw5, ae5, as5, ai6, aw6, ae6, as6, ai7, aw7, ae7, as7, ai8, aw8, ae8, as8, ai9, aw9, ae9, as9, ai10, aw10, ae10, as10, ai11, aw11, ae11, as11, ai12, aw12, ae12, as12, ai13, aw13, ae13, as13, ai14, aw14, ae14, as14, ai15, aw15, ae15, as15, n36, e3]
  refine v45 (u := w * z) (v := u * z) (w := v * w) ?_ ?_ ?_ ?_ (by omega) (by omega) (by omega) fun σ8 h1 h2 h3 => ?_
  · rw [sI_uB, n36]
  · rw [sB_uB, if_neg (by decide), K6.2.2 _ _ (by decide), b0']
  · rw [sB_uB, if_neg (by decide), K6.2.2 _ _ (by decide), b1']
  · rw [sB_uB, if_pos ⟨rfl, rfl⟩]
  simp +decide only [w42_69, zr_z0, zr_uI, zr_uJ, isO_put, isOw_put, put_fst, okv_int, okv_long, okv_ref, okv_bool, okv_byte, cat1_unset, cat1_int, cat1_ref, cs_nil, cs_int, cs_ref, cs_long, cmpL_lt, cmpL_gt, cmpL_eq, sI_uI, sI_uJ, sI_uA, sI_uB, sJ_uI, sJ_uJ, sJ_uA, sJ_uB, sA_uI, sA_uJ, sA_uA, sA_uB, sB_uI, sB_uJ, sB_uA, sB_uB, sI_fA, sJ_fA, sA_fA, sB_fA, sI_z0, sJ_z0, sA_z0, sB_z0, Option.toList_some, Option.toList_none, List.cons_append, List.nil_append, true_and, and_true, false_and, and_false, or_false, false_or, or_true, true_or, not_true_eq_false, not_false_eq_true, ↓reduceIte, Nat.reduceAdd, Nat.reduceLeDiff, Nat.reduceEqDiff, Nat.reduceSub, Int32.reduceAdd, Int32.reduceSub, Int32.reduceMul, Int32.reduceToNatClampNeg, Int64.reduceAdd, Int64.reduceSub, Int64.reduceMul, Int64.reduceLT, Int32.reduceLT, Int32.reduceToInt, Nat.add_zero, Nat.zero_add, Nat.le_refl, eq_self, implies_true, ne_eq]
  refine hq σ8 (fun k hk => ?_) (fun t i ht ht2 => ?_) h3
  · rw [h1, sI_uB, K6.1 k hk, kI3 k hk]
  · rw [h2, sA_uB, K6.2.1 t i ht, kA3 t i ht ht2]
end H

section I
variable {lw : LW} {H : AH} {p j : Nat} {s s' s'' : St} {Q : Option Value → AH → Prop} {a b c d x y cx cy dp dq dr ds : Int32} {h : Nat → Cel} {k n : Nat}
theorem o32 {a : Nat} (h : a < 1000000) : (Int32.ofNat a).toInt64 = Int64.ofNat a := by
  rw [eq64, Int32.toInt_toInt64, of64 h, Int32.toInt_ofNat_of_lt (by omega)]
theorem le24 {a : Nat} (h : a ≤ 9) : (24 < Int64.ofNat a) = False := eq_false (by rw [Int64.lt_iff_toInt_lt, of64 (by omega)]; show ¬ (24 : Int) < a; omega)
theorem G0.of (h : G0 s x y) (hI : ∀ k, k ≠ 26 → sI s' k = sI s k) (hA : ∀ t i, t ≠ 13 → t ≠ 14 → sA s' t i = sA s t i) : G0 s' x y := by
  unfold G0; rw [hI 11 (by decide), hI 12 (by decide), hI 13 (by decide), hA 4 0 (by decide) (by decide), hA 4 1 (by decide) (by decide)]; exact h
theorem G1.of (h : G1 s a b c d) (hA : ∀ t i, t ≠ 13 → t ≠ 14 → sA s' t i = sA s t i) : G1 s' a b c d := by
  unfold G1; rw [hA 5 0 (by decide) (by decide), hA 5 1 (by decide) (by decide), hA 5 8 (by decide) (by decide), hA 5 9 (by decide) (by decide), hA 5 16 (by decide) (by decide), hA 5 17 (by decide) (by decide)]; exact h
def GC (s : St) (u v w z : Nat) : Prop := sB s 7 0 = Int64.ofNat (w * z / Nat.gcd (Nat.gcd (w * z) (u * z)) (v * w)) ∧ sB s 7 1 = Int64.ofNat (u * z / Nat.gcd (Nat.gcd (w * z) (u * z)) (v * w)) ∧ sB s 7 2 = Int64.ofNat (v * w / Nat.gcd (Nat.gcd (w * z) (u * z)) (v * w))
set_option maxRecDepth 100000 in
set_option maxHeartbeats 4000000 in
theorem v6 {u v w z : Nat} (F : F1 s cx cy dp dq dr ds) (ux : (cx < 65) = False) (ux2 : (90 < cx) = False) (uy : (cy < 65) = False) (uy2 : (90 < cy) = False) (xd : (cx < 48) = False) (xd2 : (57 < cx) = True) (yd : (cy < 48) = False) (yd2 : (57 < cy) = True) (hne : ((cx - 65) * 27 = (cy - 65) * 27) = False) (hne' : ((cy - 65) * 27 = (cx - 65) * 27) = False) (p1 : (dp < 48) = False) (p2 : (57 < dp) = False) (p3 : (dp = 48) = False) (p4 : (dp < 97) = True) (q1 : (dq < 48) = False) (q2 : (57 < dq) = False) (q3 : (dq = 48) = False) (q4 : (dq < 97) = True) (r1 : (dr < 48) = False) (r2 : (57 < dr) = False) (r3 : (dr = 48) = False) (r4 : (dr < 97) = True) (z1 : (ds < 48) = False) (z2 : (57 < ds) = False) (z3 : (ds = 48) = False) (z4 : (ds < 97) = True) (eu : dp - 48 = Int32.ofNat u) (ev : dq - 48 = Int32.ofNat v) (ew : dr - 48 = Int32.ofNat w) (ez : ds - 48 = Int32.ofNat z) (u0 : 0 < u ∧ u ≤ 9) (v0 : 0 < v ∧ v ≤ 9) (w0 : 0 < w ∧ w ≤ 9) (y0 : 0 < z ∧ z ≤ 9)
    (hq : ∀ s', sI s' 10 = 1 → G0 s' ((cx - 65) * 27) ((cy - 65) * 27) → G1 s' (dp - 48) (dq - 48) (dr - 48) (ds - 48) → GC s' u v w z → Q (some (.int 0)) (ob H p s')) : Cl (pj lw) 6 [.ref p] (ob H p s) Q := by
  have ju : (dp - 48).toInt64 = Int64.ofNat u := by rw [eu]; exact o32 (by omega)
  have jv : (dq - 48).toInt64 = Int64.ofNat v := by rw [ev]; exact o32 (by omega)
  have jw : (dr - 48).toInt64 = Int64.ofNat w := by rw [ew]; exact o32 (by omega)
  have jz : (ds - 48).toInt64 = Int64.ofNat z := by rw [ez]; exact o32 (by omega)
  rw [c6]; simp +decide only [w6_0, w6_1, w6_2, w6_5, w6_6, zr_z0, zr_uI, zr_uJ, isO_put, isOw_put, put_fst, okv_int, okv_long, okv_ref, okv_bool, okv_byte, cat1_unset, cat1_int, cat1_ref, cs_nil, cs_int, cs_ref, cs_long, cmpL_lt, cmpL_gt, cmpL_eq, sI_uI, sI_uJ, sI_uA, sI_uB, sJ_uI, sJ_uJ, sJ_uA, sJ_uB, sA_uI, sA_uJ, sA_uA, sA_uB, sB_uI, sB_uJ, sB_uA, sB_uB, sI_fA, sJ_fA, sA_fA, sB_fA, sI_z0, sJ_z0, sA_z0, sB_z0, Option.toList_some, Option.toList_none, List.cons_append, List.nil_append, true_and, and_true, false_and, and_false, or_false, false_or, or_true, true_or, not_true_eq_false, not_false_eq_true, ↓reduceIte, Nat.reduceAdd, Nat.reduceLeDiff, Nat.reduceEqDiff, Nat.reduceSub, Int32.reduceAdd, Int32.reduceSub, Int32.reduceMul, Int32.reduceToNatClampNeg, Int64.reduceAdd, Int64.reduceSub, Int64.reduceMul, Int64.reduceLT, Int32.reduceLT, Int32.reduceToInt, Nat.add_zero, Nat.zero_add, Nat.le_refl, eq_self, implies_true, ne_eq, g0, s0, g1, s1, g2, g3, s3, g4, g5, g6, s6, g7, s7, g8, s8, g9, s9, g10, s10, g11, s11, g12, s12, g13, s13, g14, g15, g16, g17, g18, g19, g20, g21, g22, g23, g24, g25, g26, s26, g27, s27, ai1, aw1, ae1, as1, ai2, aw2, ae2, as2, ai3, aw3, ae3, as3, ai4, aw4, ae4, as4, ai5, aw5, ae5, as5, ai6, aw6, ae6, as6, ai7, aw7, ae7, as7, ai8, aw8, ae8, as8, ai9, aw9, ae9, as9, ai10, aw10, ae10, as10, ai11, aw11, ae11, as11, ai12, aw12, ae12, as12, ai13, aw13, ae13, as13, ai14, aw14, ae14, as14, ai15, aw15, ae15, as15]
  refine v24 (s := uI s 10 0) (by unfold F1 at F ⊢; simp +decide only [sI_uI, sA_uI, if_false]; exact F) ux ux2 uy uy2 xd xd2 yd yd2 hne hne' p1 p2 p3 p4 q1 q2 q3 q4 r1 r2 r3 r4 z1 z2 z3 z4 fun σ F => ?_
  obtain ⟨FF, ⟨f6, f7, f8⟩, i0, i1⟩ := F
  obtain ⟨⟨f3, f0, f1⟩, ⟨b0, b1, b2, b3, b4⟩, b5, b6, b7, b8, b9⟩ := id FF
  simp +decide only [w6_9, w6_12, w6_13, w6_14, w6_15, w6_18, w6_19, w6_22, w6_25, w6_26, w6_27, w6_28, w6_31, w6_32, w6_35, w6_38, w6_39, w6_40, w6_41, w6_42, w6_45, w6_48, w6_49, w6_50, w6_53, w6_56, w6_57, w6_58, w6_61, w6_64, w6_65, w6_67, w6_69, w6_72, w6_73, w6_76, w6_77, w6_78, w6_79, w6_82, w6_85, w6_86, w6_89, w6_90, w6_91, w6_94, w6_95, w6_96, w6_99, w6_102, w6_103, w6_66, zr_z0, zr_uI, zr_uJ, isO_put, isOw_put, put_fst, okv_int, okv_long, okv_ref, okv_bool, okv_byte, cat1_unset, cat1_int, cat1_ref, cs_nil, cs_int, cs_ref, cs_long, cmpL_lt, cmpL_gt, cmpL_eq, sI_uI, sI_uJ, sI_uA, sI_uB, sJ_uI, sJ_uJ, sJ_uA, sJ_uB, sA_uI, sA_uJ, sA_uA, sA_uB, sB_uI, sB_uJ, sB_uA, sB_uB, sI_fA, sJ_fA, sA_fA, sB_fA, sI_z0, sJ_z0, sA_z0, sB_z0, Option.toList_some, Option.toList_none, List.cons_append, List.nil_append, true_and, and_true, false_and, and_false, or_false, false_or, or_true, true_or, not_true_eq_false, not_false_eq_true, ↓reduceIte, Nat.reduceAdd, Nat.reduceLeDiff, Nat.reduceEqDiff, Nat.reduceSub, Int32.reduceAdd, Int32.reduceSub, Int32.reduceMul, Int32.reduceToNatClampNeg, Int64.reduceAdd, Int64.reduceSub, Int64.reduceMul, Int64.reduceLT, Int32.reduceLT, Int32.reduceToInt, Nat.add_zero, Nat.zero_add, Nat.le_refl, eq_self, implies_true, ne_eq, g0, s0, g1, s1, g2, g3, s3, g4, g5, g6, s6, g7, s7, g8, s8, g9, s9, g10, s10, g11, s11, g12, s12, g13, s13, g14, g15, g16, g17, g18, g19, g20, g21, g22, g23, g24, g25, g26, s26, g27, s27, ai1, aw1, ae1, as1, ai2, aw2, ae2, as2, ai3, aw3, ae3, as3, ai4, aw4, ae4, as4, ai5, aw5, ae5, as5, ai6, aw6, ae6, as6, ai7, aw7, ae7, as7, ai8, aw8, ae8, as8, ai9, aw9, ae9, as9, ai10, aw10, ae10, as10, ai11, aw11, ae11, as11, ai12, aw12, ae12, as12, ai13, aw13, ae13, as13, ai14, aw14, ae14, as14, ai15, aw15, ae15, as15, f6, f7, f8, f0, f1, i0, i1]
  refine v29 ?_ ux ux2 uy uy2 xd xd2 yd yd2 hne hne' p1 p2 p3 p4 q1 q2 q3 q4 r1 r2 r3 r4 z1 z2 z3 z4 fun τ F => ?_
  · refine ⟨⟨⟨?_, ?_, ?_⟩, ⟨?_, ?_, ?_, ?_, ?_⟩, ?_, ?_, ?_, ?_, ?_⟩, ⟨?_, ?_, ?_⟩, ?_, ?_⟩ <;> simp +decide only [zr_z0, zr_uI, zr_uJ, isO_put, isOw_put, put_fst, okv_int, okv_long, okv_ref, okv_bool, okv_byte, cat1_unset, cat1_int, cat1_ref, cs_nil, cs_int, cs_ref, cs_long, cmpL_lt, cmpL_gt, cmpL_eq, sI_uI, sI_uJ, sI_uA, sI_uB, sJ_uI, sJ_uJ, sJ_uA, sJ_uB, sA_uI, sA_uJ, sA_uA, sA_uB, sB_uI, sB_uJ, sB_uA, sB_uB, sI_fA, sJ_fA, sA_fA, sB_fA, sI_z0, sJ_z0, sA_z0, sB_z0, Option.toList_some, Option.toList_none, List.cons_append, List.nil_append, true_and, and_true, false_and, and_false, or_false, false_or, or_true, true_or, not_true_eq_false, not_false_eq_true, ↓reduceIte, Nat.reduceAdd, Nat.reduceLeDiff, Nat.reduceEqDiff, Nat.reduceSub, Int32.reduceAdd, Int32.reduceSub, Int32.reduceMul, Int32.reduceToNatClampNeg, Int64.reduceAdd, Int64.reduceSub, Int64.reduceMul, Int64.reduceLT, Int32.reduceLT, Int32.reduceToInt, Nat.add_zero, Nat.zero_add, Nat.le_refl, eq_self, implies_true, ne_eq, f3, f0, f1, b0, b1, b2, b3, b4, b5, b6, b7, b8, b9]
  simp +decide only [w6_106, w6_107, zr_z0, zr_uI, zr_uJ, isO_put, isOw_put, put_fst, okv_int, okv_long, okv_ref, okv_bool, okv_byte, cat1_unset, cat1_int, cat1_ref, cs_nil, cs_int, cs_ref, cs_long, cmpL_lt, cmpL_gt, cmpL_eq, sI_uI, sI_uJ, sI_uA, sI_uB, sJ_uI, sJ_uJ, sJ_uA, sJ_uB, sA_uI, sA_uJ, sA_uA, sA_uB, sB_uI, sB_uJ, sB_uA, sB_uB, sI_fA, sJ_fA, sA_fA, sB_fA, sI_z0, sJ_z0, sA_z0, sB_z0, Option.toList_some, Option.toList_none, List.cons_append, List.nil_append, true_and, and_true, false_and, and_false, or_false, false_or, or_true, true_or, not_true_eq_false, not_false_eq_true, ↓reduceIte, Nat.reduceAdd, Nat.reduceLeDiff, Nat.reduceEqDiff, Nat.reduceSub, Int32.reduceAdd, Int32.reduceSub, Int32.reduceMul, Int32.reduceToNatClampNeg, Int64.reduceAdd, Int64.reduceSub, Int64.reduceMul, Int64.reduceLT, Int32.reduceLT, Int32.reduceToInt, Nat.add_zero, Nat.zero_add, Nat.le_refl, eq_self, implies_true, ne_eq]
  refine v36 F (by rw [ju]; exact le24 u0.2) (by rw [jv]; exact le24 v0.2) (by rw [jw]; exact le24 w0.2) (by rw [jz]; exact le24 y0.2) fun τ1 g0 g1 gc => ?_
  simp +decide only [w6_110, w6_113, w6_114, w6_115, w6_116, zr_z0, zr_uI, zr_uJ, isO_put, isOw_put, put_fst, okv_int, okv_long, okv_ref, okv_bool, okv_byte, cat1_unset, cat1_int, cat1_ref, cs_nil, cs_int, cs_ref, cs_long, cmpL_lt, cmpL_gt, cmpL_eq, sI_uI, sI_uJ, sI_uA, sI_uB, sJ_uI, sJ_uJ, sJ_uA, sJ_uB, sA_uI, sA_uJ, sA_uA, sA_uB, sB_uI, sB_uJ, sB_uA, sB_uB, sI_fA, sJ_fA, sA_fA, sB_fA, sI_z0, sJ_z0, sA_z0, sB_z0, Option.toList_some, Option.toList_none, List.cons_append, List.nil_append, true_and, and_true, false_and, and_false, or_false, false_or, or_true, true_or, not_true_eq_false, not_false_eq_true, ↓reduceIte, Nat.reduceAdd, Nat.reduceLeDiff, Nat.reduceEqDiff, Nat.reduceSub, Int32.reduceAdd, Int32.reduceSub, Int32.reduceMul, Int32.reduceToNatClampNeg, Int64.reduceAdd, Int64.reduceSub, Int64.reduceMul, Int64.reduceLT, Int32.reduceLT, Int32.reduceToInt, Nat.add_zero, Nat.zero_add, Nat.le_refl, eq_self, implies_true, ne_eq]
  refine v37 g0 g1 gc fun τ2 g0 g1 g2 g3 gc => ?_
  rw [ju, jv, jw, jz] at g2 g3
  have f11 := g0.1.1
  have f13 := g0.1.2.2
  simp +decide only [w6_119, w6_120, w6_121, w6_124, w6_125, w6_126, w6_127, w6_130, zr_z0, zr_uI, zr_uJ, isO_put, isOw_put, put_fst, okv_int, okv_long, okv_ref, okv_bool, okv_byte, cat1_unset, cat1_int, cat1_ref, cs_nil, cs_int, cs_ref, cs_long, cmpL_lt, cmpL_gt, cmpL_eq, sI_uI, sI_uJ, sI_uA, sI_uB, sJ_uI, sJ_uJ, sJ_uA, sJ_uB, sA_uI, sA_uJ, sA_uA, sA_uB, sB_uI, sB_uJ, sB_uA, sB_uB, sI_fA, sJ_fA, sA_fA, sB_fA, sI_z0, sJ_z0, sA_z0, sB_z0, Option.toList_some, Option.toList_none, List.cons_append, List.nil_append, true_and, and_true, false_and, and_false, or_false, false_or, or_true, true_or, not_true_eq_false, not_false_eq_true, ↓reduceIte, Nat.reduceAdd, Nat.reduceLeDiff, Nat.reduceEqDiff, Nat.reduceSub, Int32.reduceAdd, Int32.reduceSub, Int32.reduceMul, Int32.reduceToNatClampNeg, Int64.reduceAdd, Int64.reduceSub, Int64.reduceMul, Int64.reduceLT, Int32.reduceLT, Int32.reduceToInt, Nat.add_zero, Nat.zero_add, Nat.le_refl, eq_self, implies_true, ne_eq, g0, s0, g1, s1, g2, g3, s3, g4, g5, g6, s6, g7, s7, g8, s8, g9, s9, g10, s10, g11, s11, g12, s12, g13, s13, g14, g15, g16, g17, g18, g19, g20, g21, g22, g23, g24, g25, g26, s26, g27, s27, ai1, aw1, ae1, as1, ai2, aw2, ae2, as2, ai3, aw3, ae3, as3, ai4, aw4, ae4, as4, ai5, aw5, ae5, as5, ai6, aw6, ae6, as6, ai7, aw7, ae7, as7, ai8, aw8, ae8, as8, ai9, aw9, ae9, as9, ai10, aw10, ae10, as10, ai11, aw11, ae11, as11, ai12, aw12, ae12, as12, ai13, aw13, ae13, as13, ai14, aw14, ae14, as14, ai15, aw15, ae15, as15, f11, f13]
  refine v38 g3 (eq_false (ne64 (by omega) (by omega))) ?_ (Int64.mul_comm _ _) fun τ3 K a0 a1 => ?_
  · rw [mul64 (by have := Nat.mul_le_mul v0.2 w0.2; omega)]; exact eq_false (ne64 (by have := Nat.mul_le_mul v0.2 w0.2; omega) (by have := Nat.mul_pos v0.1 w0.1; omega))
  have k11 : sI τ3 11 = 3 := by rw [K.1 _ (by decide)]; exact f11
  simp +decide only [w6_133i, w6_134, w6_135, w6_138, w6_139, w6_140, w6_141, w6_142, w6_143, w6_146, w6_147, w6_148, w6_149, w6_150, w6_153, w6_155, w6_156, w6_157, w6_158, zr_z0, zr_uI, zr_uJ, isO_put, isOw_put, put_fst, okv_int, okv_long, okv_ref, okv_bool, okv_byte, cat1_unset, cat1_int, cat1_ref, cs_nil, cs_int, cs_ref, cs_long, cmpL_lt, cmpL_gt, cmpL_eq, sI_uI, sI_uJ, sI_uA, sI_uB, sJ_uI, sJ_uJ, sJ_uA, sJ_uB, sA_uI, sA_uJ, sA_uA, sA_uB, sB_uI, sB_uJ, sB_uA, sB_uB, sI_fA, sJ_fA, sA_fA, sB_fA, sI_z0, sJ_z0, sA_z0, sB_z0, Option.toList_some, Option.toList_none, List.cons_append, List.nil_append, true_and, and_true, false_and, and_false, or_false, false_or, or_true, true_or, not_true_eq_false, not_false_eq_true, ↓reduceIte, Nat.reduceAdd, Nat.reduceLeDiff, Nat.reduceEqDiff, Nat.reduceSub, Int32.reduceAdd, Int32.reduceSub, Int32.reduceMul, Int32.reduceToNatClampNeg, Int64.reduceAdd, Int64.reduceSub, Int64.reduceMul, Int64.reduceLT, Int32.reduceLT, Int32.reduceToInt, Nat.add_zero, Nat.zero_add, Nat.le_refl, eq_self, implies_true, ne_eq, g0, s0, g1, s1, g2, g3, s3, g4, g5, g6, s6, g7, s7, g8, s8, g9, s9, g10, s10, g11, s11, g12, s12, g13, s13, g14, g15, g16, g17, g18, g19, g20, g21, g22, g23, g24, g25, g26, s26, g27, s27, ai1, aw1, ae1, as1, ai2, aw2, ae2, as2, ai3, aw3, ae3, as3, ai4, aw4, ae4, as4, ai5, aw5, ae5, as5, ai6, aw6, ae6, as6, ai7, aw7, ae7, as7, ai8, aw8, ae8, as8, ai9, aw9, ae9, as9, ai10, aw10, ae10, as10, ai11, aw11, ae11, as11, ai12, aw12, ae12, as12, ai13, aw13, ae13, as13, ai14, aw14, ae14, as14, ai15, aw15, ae15, as15, k11]
  refine v42 (u := u) (v := v) (w := w) (z := z) k11 a0 a1 (by unfold G2 at g2 ⊢; simp only [K.2.2 11 _ (by decide)]; exact g2) u0 v0 w0 y0 fun τ4 hI hA hB => ?_
  have G0' : G0 τ4 ((cx - 65) * 27) ((cy - 65) * 27) := (g0.of K.1 fun t i h1 _ => K.2.1 t i h1).of hI hA
  have G1' : G1 τ4 (dp - 48) (dq - 48) (dr - 48) (ds - 48) := (g1.of fun t i h1 _ => K.2.1 t i h1).of hA
  simp +decide only [w6_161, w6_164, w6_166, w6_167, w6_168, w6_170, w6_172, w6_175, w6_176, w6_179, w6_180, w6_181, w6_182, w6_185, w6_188, w6_189, w6_190, w6_193, w6_194, w6_169, zr_z0, zr_uI, zr_uJ, isO_put, isOw_put, put_fst, okv_int, okv_long, okv_ref, okv_bool, okv_byte, cat1_unset, cat1_int, cat1_ref, cs_nil, cs_int, cs_ref, cs_long, cmpL_lt, cmpL_gt, cmpL_eq, sI_uI, sI_uJ, sI_uA, sI_uB, sJ_uI, sJ_uJ, sJ_uA, sJ_uB, sA_uI, sA_uJ, sA_uA, sA_uB, sB_uI, sB_uJ, sB_uA, sB_uB, sI_fA, sJ_fA, sA_fA, sB_fA, sI_z0, sJ_z0, sA_z0, sB_z0, Option.toList_some, Option.toList_none, List.cons_append, List.nil_append, true_and, and_true, false_and, and_false, or_false, false_or, or_true, true_or, not_true_eq_false, not_false_eq_true, ↓reduceIte, Nat.reduceAdd, Nat.reduceLeDiff, Nat.reduceEqDiff, Nat.reduceSub, Int32.reduceAdd, Int32.reduceSub, Int32.reduceMul, Int32.reduceToNatClampNeg, Int64.reduceAdd, Int64.reduceSub, Int64.reduceMul, Int64.reduceLT, Int32.reduceLT, Int32.reduceToInt, Nat.add_zero, Nat.zero_add, Nat.le_refl, eq_self, implies_true, ne_eq, g0, s0, g1, s1, g2, g3, s3, g4, g5, g6, s6, g7, s7, g8, s8, g9, s9, g10, s10, g11, s11, g12, s12, g13, s13, g14, g15, g16, g17, g18, g19, g20, g21, g22, g23, g24, g25, g26, s26, g27, s27, ai1, aw1, ae1, as1, ai2, aw2, ae2, as2, ai3, aw3, ae3, as3, ai4, aw4, ae4, as4, ai5, aw5, ae5, as5, ai6, aw6, ae6, as6, ai7, aw7, ae7, as7, ai8, aw8, ae8, as8, ai9, aw9, ae9, as9, ai10, aw10, ae10, as10, ai11, aw11, ae11, as11, ai12, aw12, ae12, as12, ai13, aw13, ae13, as13, ai14, aw14, ae14, as14, ai15, aw15, ae15, as15]
  refine hq _ ?_ ?_ ?_ ?_
  · simp +decide only [zr_z0, zr_uI, zr_uJ, isO_put, isOw_put, put_fst, okv_int, okv_long, okv_ref, okv_bool, okv_byte, cat1_unset, cat1_int, cat1_ref, cs_nil, cs_int, cs_ref, cs_long, cmpL_lt, cmpL_gt, cmpL_eq, sI_uI, sI_uJ, sI_uA, sI_uB, sJ_uI, sJ_uJ, sJ_uA, sJ_uB, sA_uI, sA_uJ, sA_uA, sA_uB, sB_uI, sB_uJ, sB_uA, sB_uB, sI_fA, sJ_fA, sA_fA, sB_fA, sI_z0, sJ_z0, sA_z0, sB_z0, Option.toList_some, Option.toList_none, List.cons_append, List.nil_append, true_and, and_true, false_and, and_false, or_false, false_or, or_true, true_or, not_true_eq_false, not_false_eq_true, ↓reduceIte, Nat.reduceAdd, Nat.reduceLeDiff, Nat.reduceEqDiff, Nat.reduceSub, Int32.reduceAdd, Int32.reduceSub, Int32.reduceMul, Int32.reduceToNatClampNeg, Int64.reduceAdd, Int64.reduceSub, Int64.reduceMul, Int64.reduceLT, Int32.reduceLT, Int32.reduceToInt, Nat.add_zero, Nat.zero_add, Nat.le_refl, eq_self, implies_true, ne_eq]
  · unfold G0 at G0' ⊢; simp +decide only [zr_z0, zr_uI, zr_uJ, isO_put, isOw_put, put_fst, okv_int, okv_long, okv_ref, okv_bool, okv_byte, cat1_unset, cat1_int, cat1_ref, cs_nil, cs_int, cs_ref, cs_long, cmpL_lt, cmpL_gt, cmpL_eq, sI_uI, sI_uJ, sI_uA, sI_uB, sJ_uI, sJ_uJ, sJ_uA, sJ_uB, sA_uI, sA_uJ, sA_uA, sA_uB, sB_uI, sB_uJ, sB_uA, sB_uB, sI_fA, sJ_fA, sA_fA, sB_fA, sI_z0, sJ_z0, sA_z0, sB_z0, Option.toList_some, Option.toList_none, List.cons_append, List.nil_append, true_and, and_true, false_and, and_false, or_false, false_or, or_true, true_or, not_true_eq_false, not_false_eq_true, ↓reduceIte, Nat.reduceAdd, Nat.reduceLeDiff, Nat.reduceEqDiff, Nat.reduceSub, Int32.reduceAdd, Int32.reduceSub, Int32.reduceMul, Int32.reduceToNatClampNeg, Int64.reduceAdd, Int64.reduceSub, Int64.reduceMul, Int64.reduceLT, Int32.reduceLT, Int32.reduceToInt, Nat.add_zero, Nat.zero_add, Nat.le_refl, eq_self, implies_true, ne_eq]; exact G0'
  · unfold G1 at G1' ⊢; simp +decide only [zr_z0, zr_uI, zr_uJ, isO_put, isOw_put, put_fst, okv_int, okv_long, okv_ref, okv_bool, okv_byte, cat1_unset, cat1_int, cat1_ref, cs_nil, cs_int, cs_ref, cs_long, cmpL_lt, cmpL_gt, cmpL_eq, sI_uI, sI_uJ, sI_uA, sI_uB, sJ_uI, sJ_uJ, sJ_uA, sJ_uB, sA_uI, sA_uJ, sA_uA, sA_uB, sB_uI, sB_uJ, sB_uA, sB_uB, sI_fA, sJ_fA, sA_fA, sB_fA, sI_z0, sJ_z0, sA_z0, sB_z0, Option.toList_some, Option.toList_none, List.cons_append, List.nil_append, true_and, and_true, false_and, and_false, or_false, false_or, or_true, true_or, not_true_eq_false, not_false_eq_true, ↓reduceIte, Nat.reduceAdd, Nat.reduceLeDiff, Nat.reduceEqDiff, Nat.reduceSub, Int32.reduceAdd, Int32.reduceSub, Int32.reduceMul, Int32.reduceToNatClampNeg, Int64.reduceAdd, Int64.reduceSub, Int64.reduceMul, Int64.reduceLT, Int32.reduceLT, Int32.reduceToInt, Nat.add_zero, Nat.zero_add, Nat.le_refl, eq_self, implies_true, ne_eq]; exact G1'
  · unfold GC; simp +decide only [zr_z0, zr_uI, zr_uJ, isO_put, isOw_put, put_fst, okv_int, okv_long, okv_ref, okv_bool, okv_byte, cat1_unset, cat1_int, cat1_ref, cs_nil, cs_int, cs_ref, cs_long, cmpL_lt, cmpL_gt, cmpL_eq, sI_uI, sI_uJ, sI_uA, sI_uB, sJ_uI, sJ_uJ, sJ_uA, sJ_uB, sA_uI, sA_uJ, sA_uA, sA_uB, sB_uI, sB_uJ, sB_uA, sB_uB, sI_fA, sJ_fA, sA_fA, sB_fA, sI_z0, sJ_z0, sA_z0, sB_z0, Option.toList_some, Option.toList_none, List.cons_append, List.nil_append, true_and, and_true, false_and, and_false, or_false, false_or, or_true, true_or, not_true_eq_false, not_false_eq_true, ↓reduceIte, Nat.reduceAdd, Nat.reduceLeDiff, Nat.reduceEqDiff, Nat.reduceSub, Int32.reduceAdd, Int32.reduceSub, Int32.reduceMul, Int32.reduceToNatClampNeg, Int64.reduceAdd, Int64.reduceSub, Int64.reduceMul, Int64.reduceLT, Int32.reduceLT, Int32.reduceToInt, Nat.add_zero, Nat.zero_add, Nat.le_refl, eq_self, implies_true, ne_eq]; exact hB
end I

end Jvm.JX.Pj
namespace Jvm.JX.Lw
open Jvm Jvm.ClassFile Sem Op Lib Jvm.JX Jvm.JX.Pj
def lr0 : List Row := [(0, .iload_n 0, 1, 0), (1, .bipush 26, 2, 0), (3, .irem, 1, 0), (4, .bipush 26, 2, 0), (6, .iadd, 1, 0), (7, .bipush 26, 2, 0), (9, .irem, 1, 0), (10, .istore 6, 2, 0), (12, .iload 6, 2, 0), (14, .iconst 1, 1, 0), (15, .iadd, 1, 0), (16, .iload_n 1, 1, 0), (17, .bipush 25, 2, 0), (19, .irem, 1, 0), (20, .bipush 25, 2, 0), (22, .iadd, 1, 0), (23, .bipush 25, 2, 0), (25, .irem, 1, 0), (26, .iadd, 1, 0), (27, .bipush 26, 2, 0), (29, .irem, 1, 0), (30, .istore 7, 2, 0), (32, .iload_n 2, 1, 0), (33, .bipush 9, 2, 0), (35, .irem, 1, 0), (36, .bipush 9, 2, 0), (38, .iadd, 1, 0), (39, .bipush 9, 2, 0), (41, .irem, 1, 0), (42, .iconst 1, 1, 0), (43, .iadd, 1, 0), (44, .istore 8, 2, 0), (46, .iload_n 3, 1, 0), (47, .bipush 9, 2, 0), (49, .irem, 1, 0), (50, .bipush 9, 2, 0), (52, .iadd, 1, 0), (53, .bipush 9, 2, 0), (55, .irem, 1, 0), (56, .iconst 1, 1, 0), (57, .iadd, 1, 0), (58, .istore 9, 2, 0), (60, .iload 4, 2, 0), (62, .bipush 9, 2, 0), (64, .irem, 1, 0), (65, .bipush 9, 2, 0), (67, .iadd, 1, 0), (68, .bipush 9, 2, 0), (70, .irem, 1, 0), (71, .iconst 1, 1, 0), (72, .iadd, 1, 0), (73, .istore 10, 2, 0), (75, .iload 5, 2, 0), (77, .bipush 9, 2, 0), (79, .irem, 1, 0), (80, .bipush 9, 2, 0), (82, .iadd, 1, 0), (83, .bipush 9, 2, 0), (85, .irem, 1, 0), (86, .iconst 1, 1, 0), (87, .iadd, 1, 0), (88, .istore 11, 2, 0), (90, .bipush 65, 2, 0), (92, .iload 6, 2, 0), (94, .iadd, 1, 0), (95, .istore 12, 2, 0), (97, .bipush 65, 2, 0), (99, .iload 7, 2, 0), (101, .iadd, 1, 0), (102, .istore 13, 2, 0), (104, .new 7, 3, 28), (107, .dup, 1, 0), (108, .iconst 3, 1, 0), (109, .iconst 2, 1, 0), (110, .invokespecial 9, 3, 1), (113, .astore 14, 2, 0), (115, .aload 14, 2, 0), (117, .iload 12, 2, 0), (119, .invokevirtual 12, 3, 2), (122, .pop, 1, 0), (123, .aload 14, 2, 0), (125, .bipush 48, 2, 0), (127, .iload 8, 2, 0), (129, .iadd, 1, 0), (130, .invokevirtual 12, 3, 2), (133, .pop, 1, 0), (134, .aload 14, 2, 0), (136, .iload 13, 2, 0), (138, .invokevirtual 12, 3, 2), (141, .pop, 1, 0), (142, .aload 14, 2, 0), (144, .bipush 48, 2, 0), (146, .iload 9, 2, 0), (148, .iadd, 1, 0), (149, .invokevirtual 12, 3, 2), (152, .pop, 1, 0), (153, .aload 14, 2, 0), (155, .bipush 61, 2, 0), (157, .invokevirtual 12, 3, 2), (160, .pop, 1, 0), (161, .aload 14, 2, 0), (163, .iload 12, 2, 0), (165, .invokevirtual 12, 3, 2), (168, .pop, 1, 0), (169, .aload 14, 2, 0), (171, .bipush 48, 2, 0), (173, .iload 10, 2, 0), (175, .iadd, 1, 0), (176, .invokevirtual 12, 3, 2), (179, .pop, 1, 0), (180, .aload 14, 2, 0), (182, .bipush 43, 2, 0), (184, .invokevirtual 12, 3, 2), (187, .pop, 1, 0), (188, .aload 14, 2, 0), (190, .iload 13, 2, 0), (192, .invokevirtual 12, 3, 2), (195, .pop, 1, 0), (196, .aload 14, 2, 0), (198, .bipush 48, 2, 0), (200, .iload 11, 2, 0), (202, .iadd, 1, 0), (203, .invokevirtual 12, 3, 2), (206, .pop, 1, 0), (207, .aload 14, 2, 0), (209, .invokevirtual 16, 3, 6), (212, .istore 15, 2, 0), (214, .iload 8, 2, 0), (216, .iload 10, 2, 0), (218, .invokestatic 20, 3, 102), (221, .istore 16, 2, 0), (223, .iload 9, 2, 0), (225, .iload 11, 2, 0), (227, .invokestatic 20, 3, 102), (230, .istore 17, 2, 0), (232, .iload 10, 2, 0), (234, .iload 16, 2, 0), (236, .idiv, 1, 0), (237, .istore 18, 2, 0), (239, .iload 11, 2, 0), (241, .iload 17, 2, 0), (243, .idiv, 1, 0), (244, .istore 19, 2, 0), (246, .iload 18, 2, 0), (248, .iload 19, 2, 0), (250, .invokestatic 20, 3, 102), (253, .istore 20, 2, 0), (255, .iload 18, 2, 0), (257, .iload 19, 2, 0), (259, .imul, 1, 0), (260, .iload 20, 2, 0), (262, .idiv, 1, 0), (263, .i2l, 1, 0), (264, .lstore 21, 2, 0), (266, .iload 8, 2, 0), (268, .i2l, 1, 0), (269, .lload 21, 2, 0), (271, .lmul, 1, 0), (272, .iload 10, 2, 0), (274, .i2l, 1, 0), (275, .ldiv, 1, 0), (276, .lstore 23, 2, 0), (278, .iload 9, 2, 0), (280, .i2l, 1, 0), (281, .lload 21, 2, 0), (283, .lmul, 1, 0), (284, .iload 11, 2, 0), (286, .i2l, 1, 0), (287, .ldiv, 1, 0), (288, .lstore 25, 2, 0), (290, .aload 14, 2, 0), (292, .invokevirtual 26, 3, 7), (295, .istore 27, 2, 0), (297, .aload 14, 2, 0), (299, .invokevirtual 29, 3, 8), (302, .istore 28, 2, 0), (304, .aload 14, 2, 0), (306, .invokevirtual 32, 3, 9), (309, .istore 29, 2, 0), (311, .aload 14, 2, 0), (313, .iconst 0, 1, 0), (314, .invokevirtual 35, 3, 10), (317, .istore 30, 2, 0), (319, .aload 14, 2, 0), (321, .iconst 1, 1, 0), (322, .invokevirtual 35, 3, 10), (325, .istore 31, 2, 0), (327, .aload 14, 2, 0), (329, .iconst 0, 1, 0), (330, .iconst 0, 1, 0), (331, .invokevirtual 39, 3, 11), (334, .istore 32, 2, 0), (336, .aload 14, 2, 0), (338, .iconst 0, 1, 0), (339, .iconst 1, 1, 0), (340, .invokevirtual 39, 3, 11), (343, .istore 33, 2, 0), (345, .aload 14, 2, 0), (347, .iconst 1, 1, 0), (348, .iconst 0, 1, 0), (349, .invokevirtual 39, 3, 11), (352, .istore 34, 2, 0), (354, .aload 14, 2, 0), (356, .iconst 1, 1, 0), (357, .iconst 1, 1, 0), (358, .invokevirtual 39, 3, 11), (361, .istore 35, 2, 0), (363, .aload 14, 2, 0), (365, .iconst 2, 1, 0), (366, .iconst 0, 1, 0), (367, .invokevirtual 39, 3, 11), (370, .istore 36, 2, 0), (372, .aload 14, 2, 0), (374, .iconst 2, 1, 0), (375, .iconst 1, 1, 0), (376, .invokevirtual 39, 3, 11), (379, .istore 37, 2, 0), (381, .aload 14, 2, 0), (383, .iconst 0, 1, 0), (384, .invokevirtual 42, 3, 13), (387, .lstore 38, 2, 0), (389, .aload 14, 2, 0), (391, .iconst 1, 1, 0), (392, .invokevirtual 42, 3, 13), (395, .lstore 40, 2, 0), (397, .aload 14, 2, 0), (399, .iconst 2, 1, 0), (400, .invokevirtual 42, 3, 13), (403, .lstore 42, 2, 0), (405, .iload 15, 2, 0), (407, .ifCond .ne 107, 3, 0), (410, .iload 27, 2, 0), (412, .iconst 3, 1, 0), (413, .if_icmp .ne 101, 3, 0), (416, .iload 28, 2, 0), (418, .iconst 1, 1, 0), (419, .if_icmp .ne 95, 3, 0), (422, .iload 29, 2, 0), (424, .iconst 2, 1, 0), (425, .if_icmp .ne 89, 3, 0), (428, .iload 30, 2, 0), (430, .iload 6, 2, 0), (432, .bipush 27, 2, 0), (434, .imul, 1, 0), (435, .if_icmp .ne 79, 3, 0), (438, .iload 31, 2, 0), (440, .iload 7, 2, 0), (442, .bipush 27, 2, 0), (444, .imul, 1, 0), (445, .if_icmp .ne 69, 3, 0), (448, .iload 32, 2, 0), (450, .iload 8, 2, 0), (452, .if_icmp .ne 62, 3, 0), (455, .iload 33, 2, 0), (457, .iload 9, 2, 0), (459, .if_icmp .ne 55, 3, 0), (462, .iload 34, 2, 0), (464, .iload 10, 2, 0), (466, .if_icmp .ne 48, 3, 0), (469, .iload 35, 2, 0), (471, .ifCond .ne 43, 3, 0), (474, .iload 36, 2, 0), (476, .ifCond .ne 38, 3, 0), (479, .iload 37, 2, 0), (481, .iload 11, 2, 0), (483, .if_icmp .ne 31, 3, 0), (486, .lload 38, 2, 0), (488, .lload 21, 2, 0), (490, .lcmp, 1, 0), (491, .ifCond .ne 23, 3, 0), (494, .lload 40, 2, 0), (496, .lload 23, 2, 0), (498, .lcmp, 1, 0), (499, .ifCond .ne 15, 3, 0), (502, .lload 42, 2, 0), (504, .lload 25, 2, 0), (506, .lcmp, 1, 0), (507, .ifCond .ne 7, 3, 0), (510, .iconst 1, 1, 0), (511, .goto 4, 3, 0), (514, .iconst 0, 1, 0), (515, .ireturn, 1, 0)]
def lr2 : List Row := [(0, .iconst 0, 1, 0), (1, .istore_n 2, 1, 0), (2, .iload_n 2, 1, 0), (3, .bipush 8, 2, 0), (5, .if_icmp .ge 21, 3, 0), (8, .iload_n 1, 1, 0), (9, .ifCond .eq 11, 3, 0), (12, .iload_n 0, 1, 0), (13, .iload_n 1, 1, 0), (14, .irem, 1, 0), (15, .istore_n 3, 1, 0), (16, .iload_n 1, 1, 0), (17, .istore_n 0, 1, 0), (18, .iload_n 3, 1, 0), (19, .istore_n 1, 1, 0), (20, .iinc 2 1, 3, 0), (23, .goto (-21), 3, 0), (26, .iload_n 0, 1, 0), (27, .ireturn, 1, 0)]
def lrows : List (List Row) := [lr0, [], lr2]
def linfo : List MInfo := [(6, 44, 9, some .boolean, { frames := 8, cells := 40, slots := 1152, locals := 208 }), (0, 0, 9, none, {}), (2, 4, 0, some .int, { frames := 0, cells := 0, slots := 0, locals := 0 })]
def lw : LW := (fun j pc => (lrows.getD j []).lookup pc, fun j => linfo.getD j (0, 0, 9, none, {}))
section LPc
variable {L : List Slot} {S : List Value} {k n : Nat} {H : AH} {Q : Option Value → AH → Prop}
theorem c100 {x0 : Int32} {x1 : Int32} {x2 : Int32} {x3 : Int32} {x4 : Int32} {x5 : Int32} : Cl (pj lw) 100 [.int x0, .int x1, .int x2, .int x3, .int x4, .int x5] H Q ↔ W (pj lw) 100 0 [.val (.int x0), .val (.int x1), .val (.int x2), .val (.int x3), .val (.int x4), .val (.int x5), .unset, .unset, .unset, .unset, .unset, .unset, .unset, .unset, .unset, .unset, .unset, .unset, .unset, .unset, .unset, .unset, .unset, .unset, .unset, .unset, .unset, .unset, .unset, .unset, .unset, .unset, .unset, .unset, .unset, .unset, .unset, .unset, .unset, .unset, .unset, .unset, .unset, .unset] [] 0 0 H Q := cl_unf rfl
theorem w100_0 {x : Int32} : W (pj lw) 100 0 (.val (.int x) :: L) S k n H Q ↔ W (pj lw) 100 1 (.val (.int x) :: L) (.int x :: S) k n H Q := W_s (rfl : (pj lw).1 100 0 = some (.iload_n 0, 1, 0)) rfl rfl rfl
theorem w100_1 : W (pj lw) 100 1 L S k n H Q ↔ W (pj lw) 100 3 L (.int 26 :: S) k n H Q := W_s (rfl : (pj lw).1 100 1 = some (.bipush 26, 2, 0)) rfl rfl rfl
theorem w100_3 {x y : Int32} : W (pj lw) 100 3 L (.int y :: .int x :: S) k n H Q ↔ (¬ y = 0 ∧ W (pj lw) 100 4 L (.int (x % y) :: S) k n H Q) := W_irem (rfl : (pj lw).1 100 3 = some (.irem, 1, 0))
theorem w100_4 : W (pj lw) 100 4 L S k n H Q ↔ W (pj lw) 100 6 L (.int 26 :: S) k n H Q := W_s (rfl : (pj lw).1 100 4 = some (.bipush 26, 2, 0)) rfl rfl rfl
theorem w100_6 {x y : Int32} : W (pj lw) 100 6 L (.int y :: .int x :: S) k n H Q ↔ W (pj lw) 100 7 L (.int (x + y) :: S) k n H Q := W_s (rfl : (pj lw).1 100 6 = some (.iadd, 1, 0)) rfl rfl rfl
theorem w100_7 : W (pj lw) 100 7 L S k n H Q ↔ W (pj lw) 100 9 L (.int 26 :: S) k n H Q := W_s (rfl : (pj lw).1 100 7 = some (.bipush 26, 2, 0)) rfl rfl rfl
theorem w100_9 {x y : Int32} : W (pj lw) 100 9 L (.int y :: .int x :: S) k n H Q ↔ (¬ y = 0 ∧ W (pj lw) 100 10 L (.int (x % y) :: S) k n H Q) := W_irem (rfl : (pj lw).1 100 9 = some (.irem, 1, 0))
theorem w100_10 {x : Int32} {l0 l1 l2 l3 l4 l5 : Slot} : W (pj lw) 100 10 (l0 :: l1 :: l2 :: l3 :: l4 :: l5 :: .unset :: L) (.int x :: S) k n H Q ↔ W (pj lw) 100 12 (l0 :: l1 :: l2 :: l3 :: l4 :: l5 :: .val (.int x) :: L) S k n H Q := W_ist (rfl : (pj lw).1 100 10 = some (.istore 6, 2, 0)) rfl rfl
theorem w100_12 {x : Int32} {l0 l1 l2 l3 l4 l5 : Slot} : W (pj lw) 100 12 (l0 :: l1 :: l2 :: l3 :: l4 :: l5 :: .val (.int x) :: L) S k n H Q ↔ W (pj lw) 100 14 (l0 :: l1 :: l2 :: l3 :: l4 :: l5 :: .val (.int x) :: L) (.int x :: S) k n H Q := W_s (rfl : (pj lw).1 100 12 = some (.iload 6, 2, 0)) rfl rfl rfl
theorem w100_14 : W (pj lw) 100 14 L S k n H Q ↔ W (pj lw) 100 15 L (.int 1 :: S) k n H Q := W_s (rfl : (pj lw).1 100 14 = some (.iconst 1, 1, 0)) rfl rfl rfl
theorem w100_15 {x y : Int32} : W (pj lw) 100 15 L (.int y :: .int x :: S) k n H Q ↔ W (pj lw) 100 16 L (.int (x + y) :: S) k n H Q := W_s (rfl : (pj lw).1 100 15 = some (.iadd, 1, 0)) rfl rfl rfl
theorem w100_16 {x : Int32} {l0 : Slot} : W (pj lw) 100 16 (l0 :: .val (.int x) :: L) S k n H Q ↔ W (pj lw) 100 17 (l0 :: .val (.int x) :: L) (.int x :: S) k n H Q := W_s (rfl : (pj lw).1 100 16 = some (.iload_n 1, 1, 0)) rfl rfl rfl
theorem w100_17 : W (pj lw) 100 17 L S k n H Q ↔ W (pj lw) 100 19 L (.int 25 :: S) k n H Q := W_s (rfl : (pj lw).1 100 17 = some (.bipush 25, 2, 0)) rfl rfl rfl
theorem w100_19 {x y : Int32} : W (pj lw) 100 19 L (.int y :: .int x :: S) k n H Q ↔ (¬ y = 0 ∧ W (pj lw) 100 20 L (.int (x % y) :: S) k n H Q) := W_irem (rfl : (pj lw).1 100 19 = some (.irem, 1, 0))
theorem w100_20 : W (pj lw) 100 20 L S k n H Q ↔ W (pj lw) 100 22 L (.int 25 :: S) k n H Q := W_s (rfl : (pj lw).1 100 20 = some (.bipush 25, 2, 0)) rfl rfl rfl
theorem w100_22 {x y : Int32} : W (pj lw) 100 22 L (.int y :: .int x :: S) k n H Q ↔ W (pj lw) 100 23 L (.int (x + y) :: S) k n H Q := W_s (rfl : (pj lw).1 100 22 = some (.iadd, 1, 0)) rfl rfl rfl
theorem w100_23 : W (pj lw) 100 23 L S k n H Q ↔ W (pj lw) 100 25 L (.int 25 :: S) k n H Q := W_s (rfl : (pj lw).1 100 23 = some (.bipush 25, 2, 0)) rfl rfl rfl
theorem w100_25 {x y : Int32} : W (pj lw) 100 25 L (.int y :: .int x :: S) k n H Q ↔ (¬ y = 0 ∧ W (pj lw) 100 26 L (.int (x % y) :: S) k n H Q) := W_irem (rfl : (pj lw).1 100 25 = some (.irem, 1, 0))
theorem w100_26 {x y : Int32} : W (pj lw) 100 26 L (.int y :: .int x :: S) k n H Q ↔ W (pj lw) 100 27 L (.int (x + y) :: S) k n H Q := W_s (rfl : (pj lw).1 100 26 = some (.iadd, 1, 0)) rfl rfl rfl
theorem w100_27 : W (pj lw) 100 27 L S k n H Q ↔ W (pj lw) 100 29 L (.int 26 :: S) k n H Q := W_s (rfl : (pj lw).1 100 27 = some (.bipush 26, 2, 0)) rfl rfl rfl
theorem w100_29 {x y : Int32} : W (pj lw) 100 29 L (.int y :: .int x :: S) k n H Q ↔ (¬ y = 0 ∧ W (pj lw) 100 30 L (.int (x % y) :: S) k n H Q) := W_irem (rfl : (pj lw).1 100 29 = some (.irem, 1, 0))
theorem w100_30 {x : Int32} {l0 l1 l2 l3 l4 l5 l6 : Slot} : W (pj lw) 100 30 (l0 :: l1 :: l2 :: l3 :: l4 :: l5 :: l6 :: .unset :: L) (.int x :: S) k n H Q ↔ W (pj lw) 100 32 (l0 :: l1 :: l2 :: l3 :: l4 :: l5 :: l6 :: .val (.int x) :: L) S k n H Q := W_ist (rfl : (pj lw).1 100 30 = some (.istore 7, 2, 0)) rfl rfl
theorem w100_32 {x : Int32} {l0 l1 : Slot} : W (pj lw) 100 32 (l0 :: l1 :: .val (.int x) :: L) S k n H Q ↔ W (pj lw) 100 33 (l0 :: l1 :: .val (.int x) :: L) (.int x :: S) k n H Q := W_s (rfl : (pj lw).1 100 32 = some (.iload_n 2, 1, 0)) rfl rfl rfl
theorem w100_33 : W (pj lw) 100 33 L S k n H Q ↔ W (pj lw) 100 35 L (.int 9 :: S) k n H Q := W_s (rfl : (pj lw).1 100 33 = some (.bipush 9, 2, 0)) rfl rfl rfl
theorem w100_35 {x y : Int32} : W (pj lw) 100 35 L (.int y :: .int x :: S) k n H Q ↔ (¬ y = 0 ∧ W (pj lw) 100 36 L (.int (x % y) :: S) k n H Q) := W_irem (rfl : (pj lw).1 100 35 = some (.irem, 1, 0))
theorem w100_36 : W (pj lw) 100 36 L S k n H Q ↔ W (pj lw) 100 38 L (.int 9 :: S) k n H Q := W_s (rfl : (pj lw).1 100 36 = some (.bipush 9, 2, 0)) rfl rfl rfl
theorem w100_38 {x y : Int32} : W (pj lw) 100 38 L (.int y :: .int x :: S) k n H Q ↔ W (pj lw) 100 39 L (.int (x + y) :: S) k n H Q := W_s (rfl : (pj lw).1 100 38 = some (.iadd, 1, 0)) rfl rfl rfl
theorem w100_39 : W (pj lw) 100 39 L S k n H Q ↔ W (pj lw) 100 41 L (.int 9 :: S) k n H Q := W_s (rfl : (pj lw).1 100 39 = some (.bipush 9, 2, 0)) rfl rfl rfl
theorem w100_41 {x y : Int32} : W (pj lw) 100 41 L (.int y :: .int x :: S) k n H Q ↔ (¬ y = 0 ∧ W (pj lw) 100 42 L (.int (x % y) :: S) k n H Q) := W_irem (rfl : (pj lw).1 100 41 = some (.irem, 1, 0))
theorem w100_42 : W (pj lw) 100 42 L S k n H Q ↔ W (pj lw) 100 43 L (.int 1 :: S) k n H Q := W_s (rfl : (pj lw).1 100 42 = some (.iconst 1, 1, 0)) rfl rfl rfl
theorem w100_43 {x y : Int32} : W (pj lw) 100 43 L (.int y :: .int x :: S) k n H Q ↔ W (pj lw) 100 44 L (.int (x + y) :: S) k n H Q := W_s (rfl : (pj lw).1 100 43 = some (.iadd, 1, 0)) rfl rfl rfl
theorem w100_44 {x : Int32} {l0 l1 l2 l3 l4 l5 l6 l7 : Slot} : W (pj lw) 100 44 (l0 :: l1 :: l2 :: l3 :: l4 :: l5 :: l6 :: l7 :: .unset :: L) (.int x :: S) k n H Q ↔ W (pj lw) 100 46 (l0 :: l1 :: l2 :: l3 :: l4 :: l5 :: l6 :: l7 :: .val (.int x) :: L) S k n H Q := W_ist (rfl : (pj lw).1 100 44 = some (.istore 8, 2, 0)) rfl rfl
theorem w100_46 {x : Int32} {l0 l1 l2 : Slot} : W (pj lw) 100 46 (l0 :: l1 :: l2 :: .val (.int x) :: L) S k n H Q ↔ W (pj lw) 100 47 (l0 :: l1 :: l2 :: .val (.int x) :: L) (.int x :: S) k n H Q := W_s (rfl : (pj lw).1 100 46 = some (.iload_n 3, 1, 0)) rfl rfl rfl
theorem w100_47 : W (pj lw) 100 47 L S k n H Q ↔ W (pj lw) 100 49 L (.int 9 :: S) k n H Q := W_s (rfl : (pj lw).1 100 47 = some (.bipush 9, 2, 0)) rfl rfl rfl
theorem w100_49 {x y : Int32} : W (pj lw) 100 49 L (.int y :: .int x :: S) k n H Q ↔ (¬ y = 0 ∧ W (pj lw) 100 50 L (.int (x % y) :: S) k n H Q) := W_irem (rfl : (pj lw).1 100 49 = some (.irem, 1, 0))
theorem w100_50 : W (pj lw) 100 50 L S k n H Q ↔ W (pj lw) 100 52 L (.int 9 :: S) k n H Q := W_s (rfl : (pj lw).1 100 50 = some (.bipush 9, 2, 0)) rfl rfl rfl
theorem w100_52 {x y : Int32} : W (pj lw) 100 52 L (.int y :: .int x :: S) k n H Q ↔ W (pj lw) 100 53 L (.int (x + y) :: S) k n H Q := W_s (rfl : (pj lw).1 100 52 = some (.iadd, 1, 0)) rfl rfl rfl
theorem w100_53 : W (pj lw) 100 53 L S k n H Q ↔ W (pj lw) 100 55 L (.int 9 :: S) k n H Q := W_s (rfl : (pj lw).1 100 53 = some (.bipush 9, 2, 0)) rfl rfl rfl
theorem w100_55 {x y : Int32} : W (pj lw) 100 55 L (.int y :: .int x :: S) k n H Q ↔ (¬ y = 0 ∧ W (pj lw) 100 56 L (.int (x % y) :: S) k n H Q) := W_irem (rfl : (pj lw).1 100 55 = some (.irem, 1, 0))
theorem w100_56 : W (pj lw) 100 56 L S k n H Q ↔ W (pj lw) 100 57 L (.int 1 :: S) k n H Q := W_s (rfl : (pj lw).1 100 56 = some (.iconst 1, 1, 0)) rfl rfl rfl
theorem w100_57 {x y : Int32} : W (pj lw) 100 57 L (.int y :: .int x :: S) k n H Q ↔ W (pj lw) 100 58 L (.int (x + y) :: S) k n H Q := W_s (rfl : (pj lw).1 100 57 = some (.iadd, 1, 0)) rfl rfl rfl
theorem w100_58 {x : Int32} {l0 l1 l2 l3 l4 l5 l6 l7 l8 : Slot} : W (pj lw) 100 58 (l0 :: l1 :: l2 :: l3 :: l4 :: l5 :: l6 :: l7 :: l8 :: .unset :: L) (.int x :: S) k n H Q ↔ W (pj lw) 100 60 (l0 :: l1 :: l2 :: l3 :: l4 :: l5 :: l6 :: l7 :: l8 :: .val (.int x) :: L) S k n H Q := W_ist (rfl : (pj lw).1 100 58 = some (.istore 9, 2, 0)) rfl rfl
theorem w100_60 {x : Int32} {l0 l1 l2 l3 : Slot} : W (pj lw) 100 60 (l0 :: l1 :: l2 :: l3 :: .val (.int x) :: L) S k n H Q ↔ W (pj lw) 100 62 (l0 :: l1 :: l2 :: l3 :: .val (.int x) :: L) (.int x :: S) k n H Q := W_s (rfl : (pj lw).1 100 60 = some (.iload 4, 2, 0)) rfl rfl rfl
theorem w100_62 : W (pj lw) 100 62 L S k n H Q ↔ W (pj lw) 100 64 L (.int 9 :: S) k n H Q := W_s (rfl : (pj lw).1 100 62 = some (.bipush 9, 2, 0)) rfl rfl rfl
theorem w100_64 {x y : Int32} : W (pj lw) 100 64 L (.int y :: .int x :: S) k n H Q ↔ (¬ y = 0 ∧ W (pj lw) 100 65 L (.int (x % y) :: S) k n H Q) := W_irem (rfl : (pj lw).1 100 64 = some (.irem, 1, 0))
theorem w100_65 : W (pj lw) 100 65 L S k n H Q ↔ W (pj lw) 100 67 L (.int 9 :: S) k n H Q := W_s (rfl : (pj lw).1 100 65 = some (.bipush 9, 2, 0)) rfl rfl rfl
theorem w100_67 {x y : Int32} : W (pj lw) 100 67 L (.int y :: .int x :: S) k n H Q ↔ W (pj lw) 100 68 L (.int (x + y) :: S) k n H Q := W_s (rfl : (pj lw).1 100 67 = some (.iadd, 1, 0)) rfl rfl rfl
theorem w100_68 : W (pj lw) 100 68 L S k n H Q ↔ W (pj lw) 100 70 L (.int 9 :: S) k n H Q := W_s (rfl : (pj lw).1 100 68 = some (.bipush 9, 2, 0)) rfl rfl rfl
theorem w100_70 {x y : Int32} : W (pj lw) 100 70 L (.int y :: .int x :: S) k n H Q ↔ (¬ y = 0 ∧ W (pj lw) 100 71 L (.int (x % y) :: S) k n H Q) := W_irem (rfl : (pj lw).1 100 70 = some (.irem, 1, 0))
theorem w100_71 : W (pj lw) 100 71 L S k n H Q ↔ W (pj lw) 100 72 L (.int 1 :: S) k n H Q := W_s (rfl : (pj lw).1 100 71 = some (.iconst 1, 1, 0)) rfl rfl rfl
theorem w100_72 {x y : Int32} : W (pj lw) 100 72 L (.int y :: .int x :: S) k n H Q ↔ W (pj lw) 100 73 L (.int (x + y) :: S) k n H Q := W_s (rfl : (pj lw).1 100 72 = some (.iadd, 1, 0)) rfl rfl rfl
theorem w100_73 {x : Int32} {l0 l1 l2 l3 l4 l5 l6 l7 l8 l9 : Slot} : W (pj lw) 100 73 (l0 :: l1 :: l2 :: l3 :: l4 :: l5 :: l6 :: l7 :: l8 :: l9 :: .unset :: L) (.int x :: S) k n H Q ↔ W (pj lw) 100 75 (l0 :: l1 :: l2 :: l3 :: l4 :: l5 :: l6 :: l7 :: l8 :: l9 :: .val (.int x) :: L) S k n H Q := W_ist (rfl : (pj lw).1 100 73 = some (.istore 10, 2, 0)) rfl rfl
theorem w100_75 {x : Int32} {l0 l1 l2 l3 l4 : Slot} : W (pj lw) 100 75 (l0 :: l1 :: l2 :: l3 :: l4 :: .val (.int x) :: L) S k n H Q ↔ W (pj lw) 100 77 (l0 :: l1 :: l2 :: l3 :: l4 :: .val (.int x) :: L) (.int x :: S) k n H Q := W_s (rfl : (pj lw).1 100 75 = some (.iload 5, 2, 0)) rfl rfl rfl
theorem w100_77 : W (pj lw) 100 77 L S k n H Q ↔ W (pj lw) 100 79 L (.int 9 :: S) k n H Q := W_s (rfl : (pj lw).1 100 77 = some (.bipush 9, 2, 0)) rfl rfl rfl
theorem w100_79 {x y : Int32} : W (pj lw) 100 79 L (.int y :: .int x :: S) k n H Q ↔ (¬ y = 0 ∧ W (pj lw) 100 80 L (.int (x % y) :: S) k n H Q) := W_irem (rfl : (pj lw).1 100 79 = some (.irem, 1, 0))
theorem w100_80 : W (pj lw) 100 80 L S k n H Q ↔ W (pj lw) 100 82 L (.int 9 :: S) k n H Q := W_s (rfl : (pj lw).1 100 80 = some (.bipush 9, 2, 0)) rfl rfl rfl
theorem w100_82 {x y : Int32} : W (pj lw) 100 82 L (.int y :: .int x :: S) k n H Q ↔ W (pj lw) 100 83 L (.int (x + y) :: S) k n H Q := W_s (rfl : (pj lw).1 100 82 = some (.iadd, 1, 0)) rfl rfl rfl
theorem w100_83 : W (pj lw) 100 83 L S k n H Q ↔ W (pj lw) 100 85 L (.int 9 :: S) k n H Q := W_s (rfl : (pj lw).1 100 83 = some (.bipush 9, 2, 0)) rfl rfl rfl
theorem w100_85 {x y : Int32} : W (pj lw) 100 85 L (.int y :: .int x :: S) k n H Q ↔ (¬ y = 0 ∧ W (pj lw) 100 86 L (.int (x % y) :: S) k n H Q) := W_irem (rfl : (pj lw).1 100 85 = some (.irem, 1, 0))
theorem w100_86 : W (pj lw) 100 86 L S k n H Q ↔ W (pj lw) 100 87 L (.int 1 :: S) k n H Q := W_s (rfl : (pj lw).1 100 86 = some (.iconst 1, 1, 0)) rfl rfl rfl
theorem w100_87 {x y : Int32} : W (pj lw) 100 87 L (.int y :: .int x :: S) k n H Q ↔ W (pj lw) 100 88 L (.int (x + y) :: S) k n H Q := W_s (rfl : (pj lw).1 100 87 = some (.iadd, 1, 0)) rfl rfl rfl
theorem w100_88 {x : Int32} {l0 l1 l2 l3 l4 l5 l6 l7 l8 l9 l10 : Slot} : W (pj lw) 100 88 (l0 :: l1 :: l2 :: l3 :: l4 :: l5 :: l6 :: l7 :: l8 :: l9 :: l10 :: .unset :: L) (.int x :: S) k n H Q ↔ W (pj lw) 100 90 (l0 :: l1 :: l2 :: l3 :: l4 :: l5 :: l6 :: l7 :: l8 :: l9 :: l10 :: .val (.int x) :: L) S k n H Q := W_ist (rfl : (pj lw).1 100 88 = some (.istore 11, 2, 0)) rfl rfl
theorem w100_90 : W (pj lw) 100 90 L S k n H Q ↔ W (pj lw) 100 92 L (.int 65 :: S) k n H Q := W_s (rfl : (pj lw).1 100 90 = some (.bipush 65, 2, 0)) rfl rfl rfl
theorem w100_92 {x : Int32} {l0 l1 l2 l3 l4 l5 : Slot} : W (pj lw) 100 92 (l0 :: l1 :: l2 :: l3 :: l4 :: l5 :: .val (.int x) :: L) S k n H Q ↔ W (pj lw) 100 94 (l0 :: l1 :: l2 :: l3 :: l4 :: l5 :: .val (.int x) :: L) (.int x :: S) k n H Q := W_s (rfl : (pj lw).1 100 92 = some (.iload 6, 2, 0)) rfl rfl rfl
theorem w100_94 {x y : Int32} : W (pj lw) 100 94 L (.int y :: .int x :: S) k n H Q ↔ W (pj lw) 100 95 L (.int (x + y) :: S) k n H Q := W_s (rfl : (pj lw).1 100 94 = some (.iadd, 1, 0)) rfl rfl rfl
theorem w100_95 {x : Int32} {l0 l1 l2 l3 l4 l5 l6 l7 l8 l9 l10 l11 : Slot} : W (pj lw) 100 95 (l0 :: l1 :: l2 :: l3 :: l4 :: l5 :: l6 :: l7 :: l8 :: l9 :: l10 :: l11 :: .unset :: L) (.int x :: S) k n H Q ↔ W (pj lw) 100 97 (l0 :: l1 :: l2 :: l3 :: l4 :: l5 :: l6 :: l7 :: l8 :: l9 :: l10 :: l11 :: .val (.int x) :: L) S k n H Q := W_ist (rfl : (pj lw).1 100 95 = some (.istore 12, 2, 0)) rfl rfl
theorem w100_97 : W (pj lw) 100 97 L S k n H Q ↔ W (pj lw) 100 99 L (.int 65 :: S) k n H Q := W_s (rfl : (pj lw).1 100 97 = some (.bipush 65, 2, 0)) rfl rfl rfl
theorem w100_99 {x : Int32} {l0 l1 l2 l3 l4 l5 l6 : Slot} : W (pj lw) 100 99 (l0 :: l1 :: l2 :: l3 :: l4 :: l5 :: l6 :: .val (.int x) :: L) S k n H Q ↔ W (pj lw) 100 101 (l0 :: l1 :: l2 :: l3 :: l4 :: l5 :: l6 :: .val (.int x) :: L) (.int x :: S) k n H Q := W_s (rfl : (pj lw).1 100 99 = some (.iload 7, 2, 0)) rfl rfl rfl
theorem w100_101 {x y : Int32} : W (pj lw) 100 101 L (.int y :: .int x :: S) k n H Q ↔ W (pj lw) 100 102 L (.int (x + y) :: S) k n H Q := W_s (rfl : (pj lw).1 100 101 = some (.iadd, 1, 0)) rfl rfl rfl
theorem w100_102 {x : Int32} {l0 l1 l2 l3 l4 l5 l6 l7 l8 l9 l10 l11 l12 : Slot} : W (pj lw) 100 102 (l0 :: l1 :: l2 :: l3 :: l4 :: l5 :: l6 :: l7 :: l8 :: l9 :: l10 :: l11 :: l12 :: .unset :: L) (.int x :: S) k n H Q ↔ W (pj lw) 100 104 (l0 :: l1 :: l2 :: l3 :: l4 :: l5 :: l6 :: l7 :: l8 :: l9 :: l10 :: l11 :: l12 :: .val (.int x) :: L) S k n H Q := W_ist (rfl : (pj lw).1 100 102 = some (.istore 13, 2, 0)) rfl rfl
theorem w100_104 : W (pj lw) 100 104 L S k n H Q ↔ ((k + 1 ≤ 40 ∧ n + 28 ≤ 1152) ∧ W (pj lw) 100 107 L (.ref H.1 :: S) (k + 1) (n + 28) (mkO (pj lw) H) Q) := W_new' (rfl : (pj lw).1 100 104 = some (.new 7, 3, 28)) (by decide)
theorem w100_107 {x : Nat} : W (pj lw) 100 107 L (.ref x :: S) k n H Q ↔ W (pj lw) 100 108 L (.ref x :: .ref x :: S) k n H Q := W_s (rfl : (pj lw).1 100 107 = some (.dup, 1, 0)) rfl rfl rfl
theorem w100_108 : W (pj lw) 100 108 L S k n H Q ↔ W (pj lw) 100 109 L (.int 3 :: S) k n H Q := W_s (rfl : (pj lw).1 100 108 = some (.iconst 3, 1, 0)) rfl rfl rfl
theorem w100_109 : W (pj lw) 100 109 L S k n H Q ↔ W (pj lw) 100 110 L (.int 2 :: S) k n H Q := W_s (rfl : (pj lw).1 100 109 = some (.iconst 2, 1, 0)) rfl rfl rfl
theorem w100_110 {a : Nat} {x0 : Int32} {x1 : Int32} : W (pj lw) 100 110 L (.int x1 :: .int x0 :: .ref a :: S) k n H Q ↔ ((isO H a = true ∧ cs S + (5 + 11) + 12 ≤ 208 ∧ k + 15 ≤ 40 ∧ n + 490 ≤ 1152) ∧ Cl (pj lw) 1 [.ref a, .int x0, .int x1] H (fun v H => W (pj lw) 100 113 L (v.toList ++ S) (k + 15) (n + 490) H Q)) := W_init (as := [.int x0, .int x1]) (rfl : (pj lw).1 100 110 = some (.invokespecial 9, 3, 1)) rfl rfl rfl (Nat.le_of_ble_eq_true rfl) (Nat.le_of_ble_eq_true rfl) (fun h => absurd (show (15 : Nat) = 0 from h.1) (by decide))
theorem w100_113 {x : Nat} {l0 l1 l2 l3 l4 l5 l6 l7 l8 l9 l10 l11 l12 l13 : Slot} : W (pj lw) 100 113 (l0 :: l1 :: l2 :: l3 :: l4 :: l5 :: l6 :: l7 :: l8 :: l9 :: l10 :: l11 :: l12 :: l13 :: .unset :: L) (.ref x :: S) k n H Q ↔ W (pj lw) 100 115 (l0 :: l1 :: l2 :: l3 :: l4 :: l5 :: l6 :: l7 :: l8 :: l9 :: l10 :: l11 :: l12 :: l13 :: .val (.ref x) :: L) S k n H Q := W_ast (rfl : (pj lw).1 100 113 = some (.astore 14, 2, 0)) rfl rfl
theorem w100_115 {x : Nat} {l0 l1 l2 l3 l4 l5 l6 l7 l8 l9 l10 l11 l12 l13 : Slot} : W (pj lw) 100 115 (l0 :: l1 :: l2 :: l3 :: l4 :: l5 :: l6 :: l7 :: l8 :: l9 :: l10 :: l11 :: l12 :: l13 :: .val (.ref x) :: L) S k n H Q ↔ W (pj lw) 100 117 (l0 :: l1 :: l2 :: l3 :: l4 :: l5 :: l6 :: l7 :: l8 :: l9 :: l10 :: l11 :: l12 :: l13 :: .val (.ref x) :: L) (.ref x :: S) k n H Q := W_s (rfl : (pj lw).1 100 115 = some (.aload 14, 2, 0)) rfl rfl rfl
theorem w100_117 {x : Int32} {l0 l1 l2 l3 l4 l5 l6 l7 l8 l9 l10 l11 : Slot} : W (pj lw) 100 117 (l0 :: l1 :: l2 :: l3 :: l4 :: l5 :: l6 :: l7 :: l8 :: l9 :: l10 :: l11 :: .val (.int x) :: L) S k n H Q ↔ W (pj lw) 100 119 (l0 :: l1 :: l2 :: l3 :: l4 :: l5 :: l6 :: l7 :: l8 :: l9 :: l10 :: l11 :: .val (.int x) :: L) (.int x :: S) k n H Q := W_s (rfl : (pj lw).1 100 117 = some (.iload 12, 2, 0)) rfl rfl rfl
theorem w100_119 {a : Nat} {x0 : Int32} : W (pj lw) 100 119 L (.int x0 :: .ref a :: S) k n H Q ↔ ((isO H a = true ∧ cs S + (2 + 11) + 26 ≤ 208) ∧ Cl (pj lw) 2 [.ref a, .int x0] H (fun v H => W (pj lw) 100 122 L (v.toList ++ S) k n H Q)) := W_inst (as := [.int x0]) (rfl : (pj lw).1 100 119 = some (.invokevirtual 12, 3, 2)) rfl rfl rfl (Nat.le_of_ble_eq_true rfl) (Nat.le_of_ble_eq_true rfl) ⟨rfl, rfl⟩
theorem w100_122 {x : Int32} : W (pj lw) 100 122 L (.int x :: S) k n H Q ↔ W (pj lw) 100 123 L S k n H Q := W_s (rfl : (pj lw).1 100 122 = some (.pop, 1, 0)) rfl rfl rfl
theorem w100_123 {x : Nat} {l0 l1 l2 l3 l4 l5 l6 l7 l8 l9 l10 l11 l12 l13 : Slot} : W (pj lw) 100 123 (l0 :: l1 :: l2 :: l3 :: l4 :: l5 :: l6 :: l7 :: l8 :: l9 :: l10 :: l11 :: l12 :: l13 :: .val (.ref x) :: L) S k n H Q ↔ W (pj lw) 100 125 (l0 :: l1 :: l2 :: l3 :: l4 :: l5 :: l6 :: l7 :: l8 :: l9 :: l10 :: l11 :: l12 :: l13 :: .val (.ref x) :: L) (.ref x :: S) k n H Q := W_s (rfl : (pj lw).1 100 123 = some (.aload 14, 2, 0)) rfl rfl rfl
theorem w100_125 : W (pj lw) 100 125 L S k n H Q ↔ W (pj lw) 100 127 L (.int 48 :: S) k n H Q := W_s (rfl : (pj lw).1 100 125 = some (.bipush 48, 2, 0)) rfl rfl rfl
theorem w100_127 {x : Int32} {l0 l1 l2 l3 l4 l5 l6 l7 : Slot} : W (pj lw) 100 127 (l0 :: l1 :: l2 :: l3 :: l4 :: l5 :: l6 :: l7 :: .val (.int x) :: L) S k n H Q ↔ W (pj lw) 100 129 (l0 :: l1 :: l2 :: l3 :: l4 :: l5 :: l6 :: l7 :: .val (.int x) :: L) (.int x :: S) k n H Q := W_s (rfl : (pj lw).1 100 127 = some (.iload 8, 2, 0)) rfl rfl rfl
theorem w100_129 {x y : Int32} : W (pj lw) 100 129 L (.int y :: .int x :: S) k n H Q ↔ W (pj lw) 100 130 L (.int (x + y) :: S) k n H Q := W_s (rfl : (pj lw).1 100 129 = some (.iadd, 1, 0)) rfl rfl rfl
theorem w100_130 {a : Nat} {x0 : Int32} : W (pj lw) 100 130 L (.int x0 :: .ref a :: S) k n H Q ↔ ((isO H a = true ∧ cs S + (2 + 11) + 26 ≤ 208) ∧ Cl (pj lw) 2 [.ref a, .int x0] H (fun v H => W (pj lw) 100 133 L (v.toList ++ S) k n H Q)) := W_inst (as := [.int x0]) (rfl : (pj lw).1 100 130 = some (.invokevirtual 12, 3, 2)) rfl rfl rfl (Nat.le_of_ble_eq_true rfl) (Nat.le_of_ble_eq_true rfl) ⟨rfl, rfl⟩
theorem w100_133 {x : Int32} : W (pj lw) 100 133 L (.int x :: S) k n H Q ↔ W (pj lw) 100 134 L S k n H Q := W_s (rfl : (pj lw).1 100 133 = some (.pop, 1, 0)) rfl rfl rfl
theorem w100_134 {x : Nat} {l0 l1 l2 l3 l4 l5 l6 l7 l8 l9 l10 l11 l12 l13 : Slot} : W (pj lw) 100 134 (l0 :: l1 :: l2 :: l3 :: l4 :: l5 :: l6 :: l7 :: l8 :: l9 :: l10 :: l11 :: l12 :: l13 :: .val (.ref x) :: L) S k n H Q ↔ W (pj lw) 100 136 (l0 :: l1 :: l2 :: l3 :: l4 :: l5 :: l6 :: l7 :: l8 :: l9 :: l10 :: l11 :: l12 :: l13 :: .val (.ref x) :: L) (.ref x :: S) k n H Q := W_s (rfl : (pj lw).1 100 134 = some (.aload 14, 2, 0)) rfl rfl rfl
theorem w100_136 {x : Int32} {l0 l1 l2 l3 l4 l5 l6 l7 l8 l9 l10 l11 l12 : Slot} : W (pj lw) 100 136 (l0 :: l1 :: l2 :: l3 :: l4 :: l5 :: l6 :: l7 :: l8 :: l9 :: l10 :: l11 :: l12 :: .val (.int x) :: L) S k n H Q ↔ W (pj lw) 100 138 (l0 :: l1 :: l2 :: l3 :: l4 :: l5 :: l6 :: l7 :: l8 :: l9 :: l10 :: l11 :: l12 :: .val (.int x) :: L) (.int x :: S) k n H Q := W_s (rfl : (pj lw).1 100 136 = some (.iload 13, 2, 0)) rfl rfl rfl
theorem w100_138 {a : Nat} {x0 : Int32} : W (pj lw) 100 138 L (.int x0 :: .ref a :: S) k n H Q ↔ ((isO H a = true ∧ cs S + (2 + 11) + 26 ≤ 208) ∧ Cl (pj lw) 2 [.ref a, .int x0] H (fun v H => W (pj lw) 100 141 L (v.toList ++ S) k n H Q)) := W_inst (as := [.int x0]) (rfl : (pj lw).1 100 138 = some (.invokevirtual 12, 3, 2)) rfl rfl rfl (Nat.le_of_ble_eq_true rfl) (Nat.le_of_ble_eq_true rfl) ⟨rfl, rfl⟩
theorem w100_141 {x : Int32} : W (pj lw) 100 141 L (.int x :: S) k n H Q ↔ W (pj lw) 100 142 L S k n H Q := W_s (rfl : (pj lw).1 100 141 = some (.pop, 1, 0)) rfl rfl rfl
theorem w100_142 {x : Nat} {l0 l1 l2 l3 l4 l5 l6 l7 l8 l9 l10 l11 l12 l13 : Slot} : W (pj lw) 100 142 (l0 :: l1 :: l2 :: l3 :: l4 :: l5 :: l6 :: l7 :: l8 :: l9 :: l10 :: l11 :: l12 :: l13 :: .val (.ref x) :: L) S k n H Q ↔ W (pj lw) 100 144 (l0 :: l1 :: l2 :: l3 :: l4 :: l5 :: l6 :: l7 :: l8 :: l9 :: l10 :: l11 :: l12 :: l13 :: .val (.ref x) :: L) (.ref x :: S) k n H Q := W_s (rfl : (pj lw).1 100 142 = some (.aload 14, 2, 0)) rfl rfl rfl
theorem w100_144 : W (pj lw) 100 144 L S k n H Q ↔ W (pj lw) 100 146 L (.int 48 :: S) k n H Q := W_s (rfl : (pj lw).1 100 144 = some (.bipush 48, 2, 0)) rfl rfl rfl
theorem w100_146 {x : Int32} {l0 l1 l2 l3 l4 l5 l6 l7 l8 : Slot} : W (pj lw) 100 146 (l0 :: l1 :: l2 :: l3 :: l4 :: l5 :: l6 :: l7 :: l8 :: .val (.int x) :: L) S k n H Q ↔ W (pj lw) 100 148 (l0 :: l1 :: l2 :: l3 :: l4 :: l5 :: l6 :: l7 :: l8 :: .val (.int x) :: L) (.int x :: S) k n H Q := W_s (rfl : (pj lw).1 100 146 = some (.iload 9, 2, 0)) rfl rfl rfl
theorem w100_148 {x y : Int32} : W (pj lw) 100 148 L (.int y :: .int x :: S) k n H Q ↔ W (pj lw) 100 149 L (.int (x + y) :: S) k n H Q := W_s (rfl : (pj lw).1 100 148 = some (.iadd, 1, 0)) rfl rfl rfl
theorem w100_149 {a : Nat} {x0 : Int32} : W (pj lw) 100 149 L (.int x0 :: .ref a :: S) k n H Q ↔ ((isO H a = true ∧ cs S + (2 + 11) + 26 ≤ 208) ∧ Cl (pj lw) 2 [.ref a, .int x0] H (fun v H => W (pj lw) 100 152 L (v.toList ++ S) k n H Q)) := W_inst (as := [.int x0]) (rfl : (pj lw).1 100 149 = some (.invokevirtual 12, 3, 2)) rfl rfl rfl (Nat.le_of_ble_eq_true rfl) (Nat.le_of_ble_eq_true rfl) ⟨rfl, rfl⟩
theorem w100_152 {x : Int32} : W (pj lw) 100 152 L (.int x :: S) k n H Q ↔ W (pj lw) 100 153 L S k n H Q := W_s (rfl : (pj lw).1 100 152 = some (.pop, 1, 0)) rfl rfl rfl
theorem w100_153 {x : Nat} {l0 l1 l2 l3 l4 l5 l6 l7 l8 l9 l10 l11 l12 l13 : Slot} : W (pj lw) 100 153 (l0 :: l1 :: l2 :: l3 :: l4 :: l5 :: l6 :: l7 :: l8 :: l9 :: l10 :: l11 :: l12 :: l13 :: .val (.ref x) :: L) S k n H Q ↔ W (pj lw) 100 155 (l0 :: l1 :: l2 :: l3 :: l4 :: l5 :: l6 :: l7 :: l8 :: l9 :: l10 :: l11 :: l12 :: l13 :: .val (.ref x) :: L) (.ref x :: S) k n H Q := W_s (rfl : (pj lw).1 100 153 = some (.aload 14, 2, 0)) rfl rfl rfl
theorem w100_155 : W (pj lw) 100 155 L S k n H Q ↔ W (pj lw) 100 157 L (.int 61 :: S) k n H Q := W_s (rfl : (pj lw).1 100 155 = some (.bipush 61, 2, 0)) rfl rfl rfl
theorem w100_157 {a : Nat} {x0 : Int32} : W (pj lw) 100 157 L (.int x0 :: .ref a :: S) k n H Q ↔ ((isO H a = true ∧ cs S + (2 + 11) + 26 ≤ 208) ∧ Cl (pj lw) 2 [.ref a, .int x0] H (fun v H => W (pj lw) 100 160 L (v.toList ++ S) k n H Q)) := W_inst (as := [.int x0]) (rfl : (pj lw).1 100 157 = some (.invokevirtual 12, 3, 2)) rfl rfl rfl (Nat.le_of_ble_eq_true rfl) (Nat.le_of_ble_eq_true rfl) ⟨rfl, rfl⟩
theorem w100_160 {x : Int32} : W (pj lw) 100 160 L (.int x :: S) k n H Q ↔ W (pj lw) 100 161 L S k n H Q := W_s (rfl : (pj lw).1 100 160 = some (.pop, 1, 0)) rfl rfl rfl
theorem w100_161 {x : Nat} {l0 l1 l2 l3 l4 l5 l6 l7 l8 l9 l10 l11 l12 l13 : Slot} : W (pj lw) 100 161 (l0 :: l1 :: l2 :: l3 :: l4 :: l5 :: l6 :: l7 :: l8 :: l9 :: l10 :: l11 :: l12 :: l13 :: .val (.ref x) :: L) S k n H Q ↔ W (pj lw) 100 163 (l0 :: l1 :: l2 :: l3 :: l4 :: l5 :: l6 :: l7 :: l8 :: l9 :: l10 :: l11 :: l12 :: l13 :: .val (.ref x) :: L) (.ref x :: S) k n H Q := W_s (rfl : (pj lw).1 100 161 = some (.aload 14, 2, 0)) rfl rfl rfl
theorem w100_163 {x : Int32} {l0 l1 l2 l3 l4 l5 l6 l7 l8 l9 l10 l11 : Slot} : W (pj lw) 100 163 (l0 :: l1 :: l2 :: l3 :: l4 :: l5 :: l6 :: l7 :: l8 :: l9 :: l10 :: l11 :: .val (.int x) :: L) S k n H Q ↔ W (pj lw) 100 165 (l0 :: l1 :: l2 :: l3 :: l4 :: l5 :: l6 :: l7 :: l8 :: l9 :: l10 :: l11 :: .val (.int x) :: L) (.int x :: S) k n H Q := W_s (rfl : (pj lw).1 100 163 = some (.iload 12, 2, 0)) rfl rfl rfl
theorem w100_165 {a : Nat} {x0 : Int32} : W (pj lw) 100 165 L (.int x0 :: .ref a :: S) k n H Q ↔ ((isO H a = true ∧ cs S + (2 + 11) + 26 ≤ 208) ∧ Cl (pj lw) 2 [.ref a, .int x0] H (fun v H => W (pj lw) 100 168 L (v.toList ++ S) k n H Q)) := W_inst (as := [.int x0]) (rfl : (pj lw).1 100 165 = some (.invokevirtual 12, 3, 2)) rfl rfl rfl (Nat.le_of_ble_eq_true rfl) (Nat.le_of_ble_eq_true rfl) ⟨rfl, rfl⟩
theorem w100_168 {x : Int32} : W (pj lw) 100 168 L (.int x :: S) k n H Q ↔ W (pj lw) 100 169 L S k n H Q := W_s (rfl : (pj lw).1 100 168 = some (.pop, 1, 0)) rfl rfl rfl
theorem w100_169 {x : Nat} {l0 l1 l2 l3 l4 l5 l6 l7 l8 l9 l10 l11 l12 l13 : Slot} : W (pj lw) 100 169 (l0 :: l1 :: l2 :: l3 :: l4 :: l5 :: l6 :: l7 :: l8 :: l9 :: l10 :: l11 :: l12 :: l13 :: .val (.ref x) :: L) S k n H Q ↔ W (pj lw) 100 171 (l0 :: l1 :: l2 :: l3 :: l4 :: l5 :: l6 :: l7 :: l8 :: l9 :: l10 :: l11 :: l12 :: l13 :: .val (.ref x) :: L) (.ref x :: S) k n H Q := W_s (rfl : (pj lw).1 100 169 = some (.aload 14, 2, 0)) rfl rfl rfl
theorem w100_171 : W (pj lw) 100 171 L S k n H Q ↔ W (pj lw) 100 173 L (.int 48 :: S) k n H Q := W_s (rfl : (pj lw).1 100 171 = some (.bipush 48, 2, 0)) rfl rfl rfl
theorem w100_173 {x : Int32} {l0 l1 l2 l3 l4 l5 l6 l7 l8 l9 : Slot} : W (pj lw) 100 173 (l0 :: l1 :: l2 :: l3 :: l4 :: l5 :: l6 :: l7 :: l8 :: l9 :: .val (.int x) :: L) S k n H Q ↔ W (pj lw) 100 175 (l0 :: l1 :: l2 :: l3 :: l4 :: l5 :: l6 :: l7 :: l8 :: l9 :: .val (.int x) :: L) (.int x :: S) k n H Q := W_s (rfl : (pj lw).1 100 173 = some (.iload 10, 2, 0)) rfl rfl rfl
theorem w100_175 {x y : Int32} : W (pj lw) 100 175 L (.int y :: .int x :: S) k n H Q ↔ W (pj lw) 100 176 L (.int (x + y) :: S) k n H Q := W_s (rfl : (pj lw).1 100 175 = some (.iadd, 1, 0)) rfl rfl rfl
theorem w100_176 {a : Nat} {x0 : Int32} : W (pj lw) 100 176 L (.int x0 :: .ref a :: S) k n H Q ↔ ((isO H a = true ∧ cs S + (2 + 11) + 26 ≤ 208) ∧ Cl (pj lw) 2 [.ref a, .int x0] H (fun v H => W (pj lw) 100 179 L (v.toList ++ S) k n H Q)) := W_inst (as := [.int x0]) (rfl : (pj lw).1 100 176 = some (.invokevirtual 12, 3, 2)) rfl rfl rfl (Nat.le_of_ble_eq_true rfl) (Nat.le_of_ble_eq_true rfl) ⟨rfl, rfl⟩
theorem w100_179 {x : Int32} : W (pj lw) 100 179 L (.int x :: S) k n H Q ↔ W (pj lw) 100 180 L S k n H Q := W_s (rfl : (pj lw).1 100 179 = some (.pop, 1, 0)) rfl rfl rfl
theorem w100_180 {x : Nat} {l0 l1 l2 l3 l4 l5 l6 l7 l8 l9 l10 l11 l12 l13 : Slot} : W (pj lw) 100 180 (l0 :: l1 :: l2 :: l3 :: l4 :: l5 :: l6 :: l7 :: l8 :: l9 :: l10 :: l11 :: l12 :: l13 :: .val (.ref x) :: L) S k n H Q ↔ W (pj lw) 100 182 (l0 :: l1 :: l2 :: l3 :: l4 :: l5 :: l6 :: l7 :: l8 :: l9 :: l10 :: l11 :: l12 :: l13 :: .val (.ref x) :: L) (.ref x :: S) k n H Q := W_s (rfl : (pj lw).1 100 180 = some (.aload 14, 2, 0)) rfl rfl rfl
theorem w100_182 : W (pj lw) 100 182 L S k n H Q ↔ W (pj lw) 100 184 L (.int 43 :: S) k n H Q := W_s (rfl : (pj lw).1 100 182 = some (.bipush 43, 2, 0)) rfl rfl rfl
theorem w100_184 {a : Nat} {x0 : Int32} : W (pj lw) 100 184 L (.int x0 :: .ref a :: S) k n H Q ↔ ((isO H a = true ∧ cs S + (2 + 11) + 26 ≤ 208) ∧ Cl (pj lw) 2 [.ref a, .int x0] H (fun v H => W (pj lw) 100 187 L (v.toList ++ S) k n H Q)) := W_inst (as := [.int x0]) (rfl : (pj lw).1 100 184 = some (.invokevirtual 12, 3, 2)) rfl rfl rfl (Nat.le_of_ble_eq_true rfl) (Nat.le_of_ble_eq_true rfl) ⟨rfl, rfl⟩
theorem w100_187 {x : Int32} : W (pj lw) 100 187 L (.int x :: S) k n H Q ↔ W (pj lw) 100 188 L S k n H Q := W_s (rfl : (pj lw).1 100 187 = some (.pop, 1, 0)) rfl rfl rfl
theorem w100_188 {x : Nat} {l0 l1 l2 l3 l4 l5 l6 l7 l8 l9 l10 l11 l12 l13 : Slot} : W (pj lw) 100 188 (l0 :: l1 :: l2 :: l3 :: l4 :: l5 :: l6 :: l7 :: l8 :: l9 :: l10 :: l11 :: l12 :: l13 :: .val (.ref x) :: L) S k n H Q ↔ W (pj lw) 100 190 (l0 :: l1 :: l2 :: l3 :: l4 :: l5 :: l6 :: l7 :: l8 :: l9 :: l10 :: l11 :: l12 :: l13 :: .val (.ref x) :: L) (.ref x :: S) k n H Q := W_s (rfl : (pj lw).1 100 188 = some (.aload 14, 2, 0)) rfl rfl rfl
theorem w100_190 {x : Int32} {l0 l1 l2 l3 l4 l5 l6 l7 l8 l9 l10 l11 l12 : Slot} : W (pj lw) 100 190 (l0 :: l1 :: l2 :: l3 :: l4 :: l5 :: l6 :: l7 :: l8 :: l9 :: l10 :: l11 :: l12 :: .val (.int x) :: L) S k n H Q ↔ W (pj lw) 100 192 (l0 :: l1 :: l2 :: l3 :: l4 :: l5 :: l6 :: l7 :: l8 :: l9 :: l10 :: l11 :: l12 :: .val (.int x) :: L) (.int x :: S) k n H Q := W_s (rfl : (pj lw).1 100 190 = some (.iload 13, 2, 0)) rfl rfl rfl
theorem w100_192 {a : Nat} {x0 : Int32} : W (pj lw) 100 192 L (.int x0 :: .ref a :: S) k n H Q ↔ ((isO H a = true ∧ cs S + (2 + 11) + 26 ≤ 208) ∧ Cl (pj lw) 2 [.ref a, .int x0] H (fun v H => W (pj lw) 100 195 L (v.toList ++ S) k n H Q)) := W_inst (as := [.int x0]) (rfl : (pj lw).1 100 192 = some (.invokevirtual 12, 3, 2)) rfl rfl rfl (Nat.le_of_ble_eq_true rfl) (Nat.le_of_ble_eq_true rfl) ⟨rfl, rfl⟩
theorem w100_195 {x : Int32} : W (pj lw) 100 195 L (.int x :: S) k n H Q ↔ W (pj lw) 100 196 L S k n H Q := W_s (rfl : (pj lw).1 100 195 = some (.pop, 1, 0)) rfl rfl rfl
theorem w100_196 {x : Nat} {l0 l1 l2 l3 l4 l5 l6 l7 l8 l9 l10 l11 l12 l13 : Slot} : W (pj lw) 100 196 (l0 :: l1 :: l2 :: l3 :: l4 :: l5 :: l6 :: l7 :: l8 :: l9 :: l10 :: l11 :: l12 :: l13 :: .val (.ref x) :: L) S k n H Q ↔ W (pj lw) 100 198 (l0 :: l1 :: l2 :: l3 :: l4 :: l5 :: l6 :: l7 :: l8 :: l9 :: l10 :: l11 :: l12 :: l13 :: .val (.ref x) :: L) (.ref x :: S) k n H Q := W_s (rfl : (pj lw).1 100 196 = some (.aload 14, 2, 0)) rfl rfl rfl
theorem w100_198 : W (pj lw) 100 198 L S k n H Q ↔ W (pj lw) 100 200 L (.int 48 :: S) k n H Q := W_s (rfl : (pj lw).1 100 198 = some (.bipush 48, 2, 0)) rfl rfl rfl
theorem w100_200 {x : Int32} {l0 l1 l2 l3 l4 l5 l6 l7 l8 l9 l10 : Slot} : W (pj lw) 100 200 (l0 :: l1 :: l2 :: l3 :: l4 :: l5 :: l6 :: l7 :: l8 :: l9 :: l10 :: .val (.int x) :: L) S k n H Q ↔ W (pj lw) 100 202 (l0 :: l1 :: l2 :: l3 :: l4 :: l5 :: l6 :: l7 :: l8 :: l9 :: l10 :: .val (.int x) :: L) (.int x :: S) k n H Q := W_s (rfl : (pj lw).1 100 200 = some (.iload 11, 2, 0)) rfl rfl rfl
theorem w100_202 {x y : Int32} : W (pj lw) 100 202 L (.int y :: .int x :: S) k n H Q ↔ W (pj lw) 100 203 L (.int (x + y) :: S) k n H Q := W_s (rfl : (pj lw).1 100 202 = some (.iadd, 1, 0)) rfl rfl rfl
theorem w100_203 {a : Nat} {x0 : Int32} : W (pj lw) 100 203 L (.int x0 :: .ref a :: S) k n H Q ↔ ((isO H a = true ∧ cs S + (2 + 11) + 26 ≤ 208) ∧ Cl (pj lw) 2 [.ref a, .int x0] H (fun v H => W (pj lw) 100 206 L (v.toList ++ S) k n H Q)) := W_inst (as := [.int x0]) (rfl : (pj lw).1 100 203 = some (.invokevirtual 12, 3, 2)) rfl rfl rfl (Nat.le_of_ble_eq_true rfl) (Nat.le_of_ble_eq_true rfl) ⟨rfl, rfl⟩
theorem w100_206 {x : Int32} : W (pj lw) 100 206 L (.int x :: S) k n H Q ↔ W (pj lw) 100 207 L S k n H Q := W_s (rfl : (pj lw).1 100 206 = some (.pop, 1, 0)) rfl rfl rfl
theorem w100_207 {x : Nat} {l0 l1 l2 l3 l4 l5 l6 l7 l8 l9 l10 l11 l12 l13 : Slot} : W (pj lw) 100 207 (l0 :: l1 :: l2 :: l3 :: l4 :: l5 :: l6 :: l7 :: l8 :: l9 :: l10 :: l11 :: l12 :: l13 :: .val (.ref x) :: L) S k n H Q ↔ W (pj lw) 100 209 (l0 :: l1 :: l2 :: l3 :: l4 :: l5 :: l6 :: l7 :: l8 :: l9 :: l10 :: l11 :: l12 :: l13 :: .val (.ref x) :: L) (.ref x :: S) k n H Q := W_s (rfl : (pj lw).1 100 207 = some (.aload 14, 2, 0)) rfl rfl rfl
theorem w100_209 {a : Nat} : W (pj lw) 100 209 L (.ref a :: S) k n H Q ↔ ((isO H a = true ∧ cs S + (4 + 11) + 77 ≤ 208) ∧ Cl (pj lw) 6 [.ref a] H (fun v H => W (pj lw) 100 212 L (v.toList ++ S) k n H Q)) := W_inst (as := []) (rfl : (pj lw).1 100 209 = some (.invokevirtual 16, 3, 6)) rfl rfl rfl (Nat.le_of_ble_eq_true rfl) (Nat.le_of_ble_eq_true rfl) ⟨rfl, rfl⟩
theorem w100_212 {x : Int32} {l0 l1 l2 l3 l4 l5 l6 l7 l8 l9 l10 l11 l12 l13 l14 : Slot} : W (pj lw) 100 212 (l0 :: l1 :: l2 :: l3 :: l4 :: l5 :: l6 :: l7 :: l8 :: l9 :: l10 :: l11 :: l12 :: l13 :: l14 :: .unset :: L) (.int x :: S) k n H Q ↔ W (pj lw) 100 214 (l0 :: l1 :: l2 :: l3 :: l4 :: l5 :: l6 :: l7 :: l8 :: l9 :: l10 :: l11 :: l12 :: l13 :: l14 :: .val (.int x) :: L) S k n H Q := W_ist (rfl : (pj lw).1 100 212 = some (.istore 15, 2, 0)) rfl rfl
theorem w100_214 {x : Int32} {l0 l1 l2 l3 l4 l5 l6 l7 : Slot} : W (pj lw) 100 214 (l0 :: l1 :: l2 :: l3 :: l4 :: l5 :: l6 :: l7 :: .val (.int x) :: L) S k n H Q ↔ W (pj lw) 100 216 (l0 :: l1 :: l2 :: l3 :: l4 :: l5 :: l6 :: l7 :: .val (.int x) :: L) (.int x :: S) k n H Q := W_s (rfl : (pj lw).1 100 214 = some (.iload 8, 2, 0)) rfl rfl rfl
theorem w100_216 {x : Int32} {l0 l1 l2 l3 l4 l5 l6 l7 l8 l9 : Slot} : W (pj lw) 100 216 (l0 :: l1 :: l2 :: l3 :: l4 :: l5 :: l6 :: l7 :: l8 :: l9 :: .val (.int x) :: L) S k n H Q ↔ W (pj lw) 100 218 (l0 :: l1 :: l2 :: l3 :: l4 :: l5 :: l6 :: l7 :: l8 :: l9 :: .val (.int x) :: L) (.int x :: S) k n H Q := W_s (rfl : (pj lw).1 100 216 = some (.iload 10, 2, 0)) rfl rfl rfl
theorem w100_218 {x0 : Int32} {x1 : Int32} : W (pj lw) 100 218 L (.int x1 :: .int x0 :: S) k n H Q ↔ (cs S + (4 + 11) + 0 ≤ 208 ∧ Cl (pj lw) 102 [.int x0, .int x1] H (fun v H => W (pj lw) 100 221 L (v.toList ++ S) k n H Q)) := W_stat (a := [.int x0, .int x1]) (rfl : (pj lw).1 100 218 = some (.invokestatic 20, 3, 102)) rfl rfl rfl (Nat.le_of_ble_eq_true rfl) (Nat.le_of_ble_eq_true rfl) ⟨rfl, rfl⟩
theorem w100_221 {x : Int32} {l0 l1 l2 l3 l4 l5 l6 l7 l8 l9 l10 l11 l12 l13 l14 l15 : Slot} : W (pj lw) 100 221 (l0 :: l1 :: l2 :: l3 :: l4 :: l5 :: l6 :: l7 :: l8 :: l9 :: l10 :: l11 :: l12 :: l13 :: l14 :: l15 :: .unset :: L) (.int x :: S) k n H Q ↔ W (pj lw) 100 223 (l0 :: l1 :: l2 :: l3 :: l4 :: l5 :: l6 :: l7 :: l8 :: l9 :: l10 :: l11 :: l12 :: l13 :: l14 :: l15 :: .val (.int x) :: L) S k n H Q := W_ist (rfl : (pj lw).1 100 221 = some (.istore 16, 2, 0)) rfl rfl
theorem w100_223 {x : Int32} {l0 l1 l2 l3 l4 l5 l6 l7 l8 : Slot} : W (pj lw) 100 223 (l0 :: l1 :: l2 :: l3 :: l4 :: l5 :: l6 :: l7 :: l8 :: .val (.int x) :: L) S k n H Q ↔ W (pj lw) 100 225 (l0 :: l1 :: l2 :: l3 :: l4 :: l5 :: l6 :: l7 :: l8 :: .val (.int x) :: L) (.int x :: S) k n H Q := W_s (rfl : (pj lw).1 100 223 = some (.iload 9, 2, 0)) rfl rfl rfl
theorem w100_225 {x : Int32} {l0 l1 l2 l3 l4 l5 l6 l7 l8 l9 l10 : Slot} : W (pj lw) 100 225 (l0 :: l1 :: l2 :: l3 :: l4 :: l5 :: l6 :: l7 :: l8 :: l9 :: l10 :: .val (.int x) :: L) S k n H Q ↔ W (pj lw) 100 227 (l0 :: l1 :: l2 :: l3 :: l4 :: l5 :: l6 :: l7 :: l8 :: l9 :: l10 :: .val (.int x) :: L) (.int x :: S) k n H Q := W_s (rfl : (pj lw).1 100 225 = some (.iload 11, 2, 0)) rfl rfl rfl
theorem w100_227 {x0 : Int32} {x1 : Int32} : W (pj lw) 100 227 L (.int x1 :: .int x0 :: S) k n H Q ↔ (cs S + (4 + 11) + 0 ≤ 208 ∧ Cl (pj lw) 102 [.int x0, .int x1] H (fun v H => W (pj lw) 100 230 L (v.toList ++ S) k n H Q)) := W_stat (a := [.int x0, .int x1]) (rfl : (pj lw).1 100 227 = some (.invokestatic 20, 3, 102)) rfl rfl rfl (Nat.le_of_ble_eq_true rfl) (Nat.le_of_ble_eq_true rfl) ⟨rfl, rfl⟩
theorem w100_230 {x : Int32} {l0 l1 l2 l3 l4 l5 l6 l7 l8 l9 l10 l11 l12 l13 l14 l15 l16 : Slot} : W (pj lw) 100 230 (l0 :: l1 :: l2 :: l3 :: l4 :: l5 :: l6 :: l7 :: l8 :: l9 :: l10 :: l11 :: l12 :: l13 :: l14 :: l15 :: l16 :: .unset :: L) (.int x :: S) k n H Q ↔ W (pj lw) 100 232 (l0 :: l1 :: l2 :: l3 :: l4 :: l5 :: l6 :: l7 :: l8 :: l9 :: l10 :: l11 :: l12 :: l13 :: l14 :: l15 :: l16 :: .val (.int x) :: L) S k n H Q := W_ist (rfl : (pj lw).1 100 230 = some (.istore 17, 2, 0)) rfl rfl
theorem w100_232 {x : Int32} {l0 l1 l2 l3 l4 l5 l6 l7 l8 l9 : Slot} : W (pj lw) 100 232 (l0 :: l1 :: l2 :: l3 :: l4 :: l5 :: l6 :: l7 :: l8 :: l9 :: .val (.int x) :: L) S k n H Q ↔ W (pj lw) 100 234 (l0 :: l1 :: l2 :: l3 :: l4 :: l5 :: l6 :: l7 :: l8 :: l9 :: .val (.int x) :: L) (.int x :: S) k n H Q := W_s (rfl : (pj lw).1 100 232 = some (.iload 10, 2, 0)) rfl rfl rfl
theorem w100_234 {x : Int32} {l0 l1 l2 l3 l4 l5 l6 l7 l8 l9 l10 l11 l12 l13 l14 l15 : Slot} : W (pj lw) 100 234 (l0 :: l1 :: l2 :: l3 :: l4 :: l5 :: l6 :: l7 :: l8 :: l9 :: l10 :: l11 :: l12 :: l13 :: l14 :: l15 :: .val (.int x) :: L) S k n H Q ↔ W (pj lw) 100 236 (l0 :: l1 :: l2 :: l3 :: l4 :: l5 :: l6 :: l7 :: l8 :: l9 :: l10 :: l11 :: l12 :: l13 :: l14 :: l15 :: .val (.int x) :: L) (.int x :: S) k n H Q := W_s (rfl : (pj lw).1 100 234 = some (.iload 16, 2, 0)) rfl rfl rfl
theorem w100_236 {x y : Int32} : W (pj lw) 100 236 L (.int y :: .int x :: S) k n H Q ↔ (¬ y = 0 ∧ W (pj lw) 100 237 L (.int (x / y) :: S) k n H Q) := W_idiv (rfl : (pj lw).1 100 236 = some (.idiv, 1, 0))
theorem w100_237 {x : Int32} {l0 l1 l2 l3 l4 l5 l6 l7 l8 l9 l10 l11 l12 l13 l14 l15 l16 l17 : Slot} : W (pj lw) 100 237 (l0 :: l1 :: l2 :: l3 :: l4 :: l5 :: l6 :: l7 :: l8 :: l9 :: l10 :: l11 :: l12 :: l13 :: l14 :: l15 :: l16 :: l17 :: .unset :: L) (.int x :: S) k n H Q ↔ W (pj lw) 100 239 (l0 :: l1 :: l2 :: l3 :: l4 :: l5 :: l6 :: l7 :: l8 :: l9 :: l10 :: l11 :: l12 :: l13 :: l14 :: l15 :: l16 :: l17 :: .val (.int x) :: L) S k n H Q := W_ist (rfl : (pj lw).1 100 237 = some (.istore 18, 2, 0)) rfl rfl
theorem w100_239 {x : Int32} {l0 l1 l2 l3 l4 l5 l6 l7 l8 l9 l10 : Slot} : W (pj lw) 100 239 (l0 :: l1 :: l2 :: l3 :: l4 :: l5 :: l6 :: l7 :: l8 :: l9 :: l10 :: .val (.int x) :: L) S k n H Q ↔ W (pj lw) 100 241 (l0 :: l1 :: l2 :: l3 :: l4 :: l5 :: l6 :: l7 :: l8 :: l9 :: l10 :: .val (.int x) :: L) (.int x :: S) k n H Q := W_s (rfl : (pj lw).1 100 239 = some (.iload 11, 2, 0)) rfl rfl rfl
theorem w100_241 {x : Int32} {l0 l1 l2 l3 l4 l5 l6 l7 l8 l9 l10 l11 l12 l13 l14 l15 l16 : Slot} : W (pj lw) 100 241 (l0 :: l1 :: l2 :: l3 :: l4 :: l5 :: l6 :: l7 :: l8 :: l9 :: l10 :: l11 :: l12 :: l13 :: l14 :: l15 :: l16 :: .val (.int x) :: L) S k n H Q ↔ W (pj lw) 100 243 (l0 :: l1 :: l2 :: l3 :: l4 :: l5 :: l6 :: l7 :: l8 :: l9 :: l10 :: l11 :: l12 :: l13 :: l14 :: l15 :: l16 :: .val (.int x) :: L) (.int x :: S) k n H Q := W_s (rfl : (pj lw).1 100 241 = some (.iload 17, 2, 0)) rfl rfl rfl
theorem w100_243 {x y : Int32} : W (pj lw) 100 243 L (.int y :: .int x :: S) k n H Q ↔ (¬ y = 0 ∧ W (pj lw) 100 244 L (.int (x / y) :: S) k n H Q) := W_idiv (rfl : (pj lw).1 100 243 = some (.idiv, 1, 0))
theorem w100_244 {x : Int32} {l0 l1 l2 l3 l4 l5 l6 l7 l8 l9 l10 l11 l12 l13 l14 l15 l16 l17 l18 : Slot} : W (pj lw) 100 244 (l0 :: l1 :: l2 :: l3 :: l4 :: l5 :: l6 :: l7 :: l8 :: l9 :: l10 :: l11 :: l12 :: l13 :: l14 :: l15 :: l16 :: l17 :: l18 :: .unset :: L) (.int x :: S) k n H Q ↔ W (pj lw) 100 246 (l0 :: l1 :: l2 :: l3 :: l4 :: l5 :: l6 :: l7 :: l8 :: l9 :: l10 :: l11 :: l12 :: l13 :: l14 :: l15 :: l16 :: l17 :: l18 :: .val (.int x) :: L) S k n H Q := W_ist (rfl : (pj lw).1 100 244 = some (.istore 19, 2, 0)) rfl rfl
theorem w100_246 {x : Int32} {l0 l1 l2 l3 l4 l5 l6 l7 l8 l9 l10 l11 l12 l13 l14 l15 l16 l17 : Slot} : W (pj lw) 100 246 (l0 :: l1 :: l2 :: l3 :: l4 :: l5 :: l6 :: l7 :: l8 :: l9 :: l10 :: l11 :: l12 :: l13 :: l14 :: l15 :: l16 :: l17 :: .val (.int x) :: L) S k n H Q ↔ W (pj lw) 100 248 (l0 :: l1 :: l2 :: l3 :: l4 :: l5 :: l6 :: l7 :: l8 :: l9 :: l10 :: l11 :: l12 :: l13 :: l14 :: l15 :: l16 :: l17 :: .val (.int x) :: L) (.int x :: S) k n H Q := W_s (rfl : (pj lw).1 100 246 = some (.iload 18, 2, 0)) rfl rfl rfl
theorem w100_248 {x : Int32} {l0 l1 l2 l3 l4 l5 l6 l7 l8 l9 l10 l11 l12 l13 l14 l15 l16 l17 l18 : Slot} : W (pj lw) 100 248 (l0 :: l1 :: l2 :: l3 :: l4 :: l5 :: l6 :: l7 :: l8 :: l9 :: l10 :: l11 :: l12 :: l13 :: l14 :: l15 :: l16 :: l17 :: l18 :: .val (.int x) :: L) S k n H Q ↔ W (pj lw) 100 250 (l0 :: l1 :: l2 :: l3 :: l4 :: l5 :: l6 :: l7 :: l8 :: l9 :: l10 :: l11 :: l12 :: l13 :: l14 :: l15 :: l16 :: l17 :: l18 :: .val (.int x) :: L) (.int x :: S) k n H Q := W_s (rfl : (pj lw).1 100 248 = some (.iload 19, 2, 0)) rfl rfl rfl
theorem w100_250 {x0 : Int32} {x1 : Int32} : W (pj lw) 100 250 L (.int x1 :: .int x0 :: S) k n H Q ↔ (cs S + (4 + 11) + 0 ≤ 208 ∧ Cl (pj lw) 102 [.int x0, .int x1] H (fun v H => W (pj lw) 100 253 L (v.toList ++ S) k n H Q)) := W_stat (a := [.int x0, .int x1]) (rfl : (pj lw).1 100 250 = some (.invokestatic 20, 3, 102)) rfl rfl rfl (Nat.le_of_ble_eq_true rfl) (Nat.le_of_ble_eq_true rfl) ⟨rfl, rfl⟩
theorem w100_253 {x : Int32} {l0 l1 l2 l3 l4 l5 l6 l7 l8 l9 l10 l11 l12 l13 l14 l15 l16 l17 l18 l19 : Slot} : W (pj lw) 100 253 (l0 :: l1 :: l2 :: l3 :: l4 :: l5 :: l6 :: l7 :: l8 :: l9 :: l10 :: l11 :: l12 :: l13 :: l14 :: l15 :: l16 :: l17 :: l18 :: l19 :: .unset :: L) (.int x :: S) k n H Q ↔ W (pj lw) 100 255 (l0 :: l1 :: l2 :: l3 :: l4 :: l5 :: l6 :: l7 :: l8 :: l9 :: l10 :: l11 :: l12 :: l13 :: l14 :: l15 :: l16 :: l17 :: l18 :: l19 :: .val (.int x) :: L) S k n H Q := W_ist (rfl : (pj lw).1 100 253 = some (.istore 20, 2, 0)) rfl rfl
theorem w100_255 {x : Int32} {l0 l1 l2 l3 l4 l5 l6 l7 l8 l9 l10 l11 l12 l13 l14 l15 l16 l17 : Slot} : W (pj lw) 100 255 (l0 :: l1 :: l2 :: l3 :: l4 :: l5 :: l6 :: l7 :: l8 :: l9 :: l10 :: l11 :: l12 :: l13 :: l14 :: l15 :: l16 :: l17 :: .val (.int x) :: L) S k n H Q ↔ W (pj lw) 100 257 (l0 :: l1 :: l2 :: l3 :: l4 :: l5 :: l6 :: l7 :: l8 :: l9 :: l10 :: l11 :: l12 :: l13 :: l14 :: l15 :: l16 :: l17 :: .val (.int x) :: L) (.int x :: S) k n H Q := W_s (rfl : (pj lw).1 100 255 = some (.iload 18, 2, 0)) rfl rfl rfl
theorem w100_257 {x : Int32} {l0 l1 l2 l3 l4 l5 l6 l7 l8 l9 l10 l11 l12 l13 l14 l15 l16 l17 l18 : Slot} : W (pj lw) 100 257 (l0 :: l1 :: l2 :: l3 :: l4 :: l5 :: l6 :: l7 :: l8 :: l9 :: l10 :: l11 :: l12 :: l13 :: l14 :: l15 :: l16 :: l17 :: l18 :: .val (.int x) :: L) S k n H Q ↔ W (pj lw) 100 259 (l0 :: l1 :: l2 :: l3 :: l4 :: l5 :: l6 :: l7 :: l8 :: l9 :: l10 :: l11 :: l12 :: l13 :: l14 :: l15 :: l16 :: l17 :: l18 :: .val (.int x) :: L) (.int x :: S) k n H Q := W_s (rfl : (pj lw).1 100 257 = some (.iload 19, 2, 0)) rfl rfl rfl
theorem w100_259 {x y : Int32} : W (pj lw) 100 259 L (.int y :: .int x :: S) k n H Q ↔ W (pj lw) 100 260 L (.int (x * y) :: S) k n H Q := W_s (rfl : (pj lw).1 100 259 = some (.imul, 1, 0)) rfl rfl rfl
theorem w100_260 {x : Int32} {l0 l1 l2 l3 l4 l5 l6 l7 l8 l9 l10 l11 l12 l13 l14 l15 l16 l17 l18 l19 : Slot} : W (pj lw) 100 260 (l0 :: l1 :: l2 :: l3 :: l4 :: l5 :: l6 :: l7 :: l8 :: l9 :: l10 :: l11 :: l12 :: l13 :: l14 :: l15 :: l16 :: l17 :: l18 :: l19 :: .val (.int x) :: L) S k n H Q ↔ W (pj lw) 100 262 (l0 :: l1 :: l2 :: l3 :: l4 :: l5 :: l6 :: l7 :: l8 :: l9 :: l10 :: l11 :: l12 :: l13 :: l14 :: l15 :: l16 :: l17 :: l18 :: l19 :: .val (.int x) :: L) (.int x :: S) k n H Q := W_s (rfl : (pj lw).1 100 260 = some (.iload 20, 2, 0)) rfl rfl rfl
theorem w100_262 {x y : Int32} : W (pj lw) 100 262 L (.int y :: .int x :: S) k n H Q ↔ (¬ y = 0 ∧ W (pj lw) 100 263 L (.int (x / y) :: S) k n H Q) := W_idiv (rfl : (pj lw).1 100 262 = some (.idiv, 1, 0))
theorem w100_263 {x : Int32} : W (pj lw) 100 263 L (.int x :: S) k n H Q ↔ W (pj lw) 100 264 L (.long x.toInt64 :: S) k n H Q := W_s (rfl : (pj lw).1 100 263 = some (.i2l, 1, 0)) rfl rfl rfl
theorem w100_264uu {x : Int64} {l0 l1 l2 l3 l4 l5 l6 l7 l8 l9 l10 l11 l12 l13 l14 l15 l16 l17 l18 l19 l20 : Slot} : W (pj lw) 100 264 (l0 :: l1 :: l2 :: l3 :: l4 :: l5 :: l6 :: l7 :: l8 :: l9 :: l10 :: l11 :: l12 :: l13 :: l14 :: l15 :: l16 :: l17 :: l18 :: l19 :: l20 :: .unset :: .unset :: L) (.long x :: S) k n H Q ↔ W (pj lw) 100 266 (l0 :: l1 :: l2 :: l3 :: l4 :: l5 :: l6 :: l7 :: l8 :: l9 :: l10 :: l11 :: l12 :: l13 :: l14 :: l15 :: l16 :: l17 :: l18 :: l19 :: l20 :: .val (.long x) :: .second :: L) S k n H Q := W_lst (rfl : (pj lw).1 100 264 = some (.lstore 21, 2, 0)) rfl rfl rfl rfl
theorem w100_266 {x : Int32} {l0 l1 l2 l3 l4 l5 l6 l7 : Slot} : W (pj lw) 100 266 (l0 :: l1 :: l2 :: l3 :: l4 :: l5 :: l6 :: l7 :: .val (.int x) :: L) S k n H Q ↔ W (pj lw) 100 268 (l0 :: l1 :: l2 :: l3 :: l4 :: l5 :: l6 :: l7 :: .val (.int x) :: L) (.int x :: S) k n H Q := W_s (rfl : (pj lw).1 100 266 = some (.iload 8, 2, 0)) rfl rfl rfl
theorem w100_268 {x : Int32} : W (pj lw) 100 268 L (.int x :: S) k n H Q ↔ W (pj lw) 100 269 L (.long x.toInt64 :: S) k n H Q := W_s (rfl : (pj lw).1 100 268 = some (.i2l, 1, 0)) rfl rfl rfl
theorem w100_269 {x : Int64} {l0 l1 l2 l3 l4 l5 l6 l7 l8 l9 l10 l11 l12 l13 l14 l15 l16 l17 l18 l19 l20 : Slot} : W (pj lw) 100 269 (l0 :: l1 :: l2 :: l3 :: l4 :: l5 :: l6 :: l7 :: l8 :: l9 :: l10 :: l11 :: l12 :: l13 :: l14 :: l15 :: l16 :: l17 :: l18 :: l19 :: l20 :: .val (.long x) :: L) S k n H Q ↔ W (pj lw) 100 271 (l0 :: l1 :: l2 :: l3 :: l4 :: l5 :: l6 :: l7 :: l8 :: l9 :: l10 :: l11 :: l12 :: l13 :: l14 :: l15 :: l16 :: l17 :: l18 :: l19 :: l20 :: .val (.long x) :: L) (.long x :: S) k n H Q := W_s (rfl : (pj lw).1 100 269 = some (.lload 21, 2, 0)) rfl rfl rfl
theorem w100_271 {x y : Int64} : W (pj lw) 100 271 L (.long y :: .long x :: S) k n H Q ↔ W (pj lw) 100 272 L (.long (x * y) :: S) k n H Q := W_s (rfl : (pj lw).1 100 271 = some (.lmul, 1, 0)) rfl rfl rfl
theorem w100_272 {x : Int32} {l0 l1 l2 l3 l4 l5 l6 l7 l8 l9 : Slot} : W (pj lw) 100 272 (l0 :: l1 :: l2 :: l3 :: l4 :: l5 :: l6 :: l7 :: l8 :: l9 :: .val (.int x) :: L) S k n H Q ↔ W (pj lw) 100 274 (l0 :: l1 :: l2 :: l3 :: l4 :: l5 :: l6 :: l7 :: l8 :: l9 :: .val (.int x) :: L) (.int x :: S) k n H Q := W_s (rfl : (pj lw).1 100 272 = some (.iload 10, 2, 0)) rfl rfl rfl
theorem w100_274 {x : Int32} : W (pj lw) 100 274 L (.int x :: S) k n H Q ↔ W (pj lw) 100 275 L (.long x.toInt64 :: S) k n H Q := W_s (rfl : (pj lw).1 100 274 = some (.i2l, 1, 0)) rfl rfl rfl
theorem w100_275 {x y : Int64} : W (pj lw) 100 275 L (.long y :: .long x :: S) k n H Q ↔ (¬ y = 0 ∧ W (pj lw) 100 276 L (.long (x / y) :: S) k n H Q) := W_ldiv (rfl : (pj lw).1 100 275 = some (.ldiv, 1, 0))
theorem w100_276uu {x : Int64} {l0 l1 l2 l3 l4 l5 l6 l7 l8 l9 l10 l11 l12 l13 l14 l15 l16 l17 l18 l19 l20 l21 l22 : Slot} : W (pj lw) 100 276 (l0 :: l1 :: l2 :: l3 :: l4 :: l5 :: l6 :: l7 :: l8 :: l9 :: l10 :: l11 :: l12 :: l13 :: l14 :: l15 :: l16 :: l17 :: l18 :: l19 :: l20 :: l21 :: l22 :: .unset :: .unset :: L) (.long x :: S) k n H Q ↔ W (pj lw) 100 278 (l0 :: l1 :: l2 :: l3 :: l4 :: l5 :: l6 :: l7 :: l8 :: l9 :: l10 :: l11 :: l12 :: l13 :: l14 :: l15 :: l16 :: l17 :: l18 :: l19 :: l20 :: l21 :: l22 :: .val (.long x) :: .second :: L) S k n H Q := W_lst (rfl : (pj lw).1 100 276 = some (.lstore 23, 2, 0)) rfl rfl rfl rfl
theorem w100_278 {x : Int32} {l0 l1 l2 l3 l4 l5 l6 l7 l8 : Slot} : W (pj lw) 100 278 (l0 :: l1 :: l2 :: l3 :: l4 :: l5 :: l6 :: l7 :: l8 :: .val (.int x) :: L) S k n H Q ↔ W (pj lw) 100 280 (l0 :: l1 :: l2 :: l3 :: l4 :: l5 :: l6 :: l7 :: l8 :: .val (.int x) :: L) (.int x :: S) k n H Q := W_s (rfl : (pj lw).1 100 278 = some (.iload 9, 2, 0)) rfl rfl rfl
theorem w100_280 {x : Int32} : W (pj lw) 100 280 L (.int x :: S) k n H Q ↔ W (pj lw) 100 281 L (.long x.toInt64 :: S) k n H Q := W_s (rfl : (pj lw).1 100 280 = some (.i2l, 1, 0)) rfl rfl rfl
theorem w100_281 {x : Int64} {l0 l1 l2 l3 l4 l5 l6 l7 l8 l9 l10 l11 l12 l13 l14 l15 l16 l17 l18 l19 l20 : Slot} : W (pj lw) 100 281 (l0 :: l1 :: l2 :: l3 :: l4 :: l5 :: l6 :: l7 :: l8 :: l9 :: l10 :: l11 :: l12 :: l13 :: l14 :: l15 :: l16 :: l17 :: l18 :: l19 :: l20 :: .val (.long x) :: L) S k n H Q ↔ W (pj lw) 100 283 (l0 :: l1 :: l2 :: l3 :: l4 :: l5 :: l6 :: l7 :: l8 :: l9 :: l10 :: l11 :: l12 :: l13 :: l14 :: l15 :: l16 :: l17 :: l18 :: l19 :: l20 :: .val (.long x) :: L) (.long x :: S) k n H Q := W_s (rfl : (pj lw).1 100 281 = some (.lload 21, 2, 0)) rfl rfl rfl
theorem w100_283 {x y : Int64} : W (pj lw) 100 283 L (.long y :: .long x :: S) k n H Q ↔ W (pj lw) 100 284 L (.long (x * y) :: S) k n H Q := W_s (rfl : (pj lw).1 100 283 = some (.lmul, 1, 0)) rfl rfl rfl
theorem w100_284 {x : Int32} {l0 l1 l2 l3 l4 l5 l6 l7 l8 l9 l10 : Slot} : W (pj lw) 100 284 (l0 :: l1 :: l2 :: l3 :: l4 :: l5 :: l6 :: l7 :: l8 :: l9 :: l10 :: .val (.int x) :: L) S k n H Q ↔ W (pj lw) 100 286 (l0 :: l1 :: l2 :: l3 :: l4 :: l5 :: l6 :: l7 :: l8 :: l9 :: l10 :: .val (.int x) :: L) (.int x :: S) k n H Q := W_s (rfl : (pj lw).1 100 284 = some (.iload 11, 2, 0)) rfl rfl rfl
theorem w100_286 {x : Int32} : W (pj lw) 100 286 L (.int x :: S) k n H Q ↔ W (pj lw) 100 287 L (.long x.toInt64 :: S) k n H Q := W_s (rfl : (pj lw).1 100 286 = some (.i2l, 1, 0)) rfl rfl rfl
theorem w100_287 {x y : Int64} : W (pj lw) 100 287 L (.long y :: .long x :: S) k n H Q ↔ (¬ y = 0 ∧ W (pj lw) 100 288 L (.long (x / y) :: S) k n H Q) := W_ldiv (rfl : (pj lw).1 100 287 = some (.ldiv, 1, 0))
theorem w100_288uu {x : Int64} {l0 l1 l2 l3 l4 l5 l6 l7 l8 l9 l10 l11 l12 l13 l14 l15 l16 l17 l18 l19 l20 l21 l22 l23 l24 : Slot} : W (pj lw) 100 288 (l0 :: l1 :: l2 :: l3 :: l4 :: l5 :: l6 :: l7 :: l8 :: l9 :: l10 :: l11 :: l12 :: l13 :: l14 :: l15 :: l16 :: l17 :: l18 :: l19 :: l20 :: l21 :: l22 :: l23 :: l24 :: .unset :: .unset :: L) (.long x :: S) k n H Q ↔ W (pj lw) 100 290 (l0 :: l1 :: l2 :: l3 :: l4 :: l5 :: l6 :: l7 :: l8 :: l9 :: l10 :: l11 :: l12 :: l13 :: l14 :: l15 :: l16 :: l17 :: l18 :: l19 :: l20 :: l21 :: l22 :: l23 :: l24 :: .val (.long x) :: .second :: L) S k n H Q := W_lst (rfl : (pj lw).1 100 288 = some (.lstore 25, 2, 0)) rfl rfl rfl rfl
theorem w100_290 {x : Nat} {l0 l1 l2 l3 l4 l5 l6 l7 l8 l9 l10 l11 l12 l13 : Slot} : W (pj lw) 100 290 (l0 :: l1 :: l2 :: l3 :: l4 :: l5 :: l6 :: l7 :: l8 :: l9 :: l10 :: l11 :: l12 :: l13 :: .val (.ref x) :: L) S k n H Q ↔ W (pj lw) 100 292 (l0 :: l1 :: l2 :: l3 :: l4 :: l5 :: l6 :: l7 :: l8 :: l9 :: l10 :: l11 :: l12 :: l13 :: .val (.ref x) :: L) (.ref x :: S) k n H Q := W_s (rfl : (pj lw).1 100 290 = some (.aload 14, 2, 0)) rfl rfl rfl
theorem w100_292 {a : Nat} : W (pj lw) 100 292 L (.ref a :: S) k n H Q ↔ ((isO H a = true ∧ cs S + (1 + 11) + 0 ≤ 208) ∧ Cl (pj lw) 7 [.ref a] H (fun v H => W (pj lw) 100 295 L (v.toList ++ S) k n H Q)) := W_inst (as := []) (rfl : (pj lw).1 100 292 = some (.invokevirtual 26, 3, 7)) rfl rfl rfl (Nat.le_of_ble_eq_true rfl) (Nat.le_of_ble_eq_true rfl) ⟨rfl, rfl⟩
theorem w100_295 {x : Int32} {l0 l1 l2 l3 l4 l5 l6 l7 l8 l9 l10 l11 l12 l13 l14 l15 l16 l17 l18 l19 l20 l21 l22 l23 l24 l25 l26 : Slot} : W (pj lw) 100 295 (l0 :: l1 :: l2 :: l3 :: l4 :: l5 :: l6 :: l7 :: l8 :: l9 :: l10 :: l11 :: l12 :: l13 :: l14 :: l15 :: l16 :: l17 :: l18 :: l19 :: l20 :: l21 :: l22 :: l23 :: l24 :: l25 :: l26 :: .unset :: L) (.int x :: S) k n H Q ↔ W (pj lw) 100 297 (l0 :: l1 :: l2 :: l3 :: l4 :: l5 :: l6 :: l7 :: l8 :: l9 :: l10 :: l11 :: l12 :: l13 :: l14 :: l15 :: l16 :: l17 :: l18 :: l19 :: l20 :: l21 :: l22 :: l23 :: l24 :: l25 :: l26 :: .val (.int x) :: L) S k n H Q := W_ist (rfl : (pj lw).1 100 295 = some (.istore 27, 2, 0)) rfl rfl
theorem w100_297 {x : Nat} {l0 l1 l2 l3 l4 l5 l6 l7 l8 l9 l10 l11 l12 l13 : Slot} : W (pj lw) 100 297 (l0 :: l1 :: l2 :: l3 :: l4 :: l5 :: l6 :: l7 :: l8 :: l9 :: l10 :: l11 :: l12 :: l13 :: .val (.ref x) :: L) S k n H Q ↔ W (pj lw) 100 299 (l0 :: l1 :: l2 :: l3 :: l4 :: l5 :: l6 :: l7 :: l8 :: l9 :: l10 :: l11 :: l12 :: l13 :: .val (.ref x) :: L) (.ref x :: S) k n H Q := W_s (rfl : (pj lw).1 100 297 = some (.aload 14, 2, 0)) rfl rfl rfl
theorem w100_299 {a : Nat} : W (pj lw) 100 299 L (.ref a :: S) k n H Q ↔ ((isO H a = true ∧ cs S + (1 + 11) + 0 ≤ 208) ∧ Cl (pj lw) 8 [.ref a] H (fun v H => W (pj lw) 100 302 L (v.toList ++ S) k n H Q)) := W_inst (as := []) (rfl : (pj lw).1 100 299 = some (.invokevirtual 29, 3, 8)) rfl rfl rfl (Nat.le_of_ble_eq_true rfl) (Nat.le_of_ble_eq_true rfl) ⟨rfl, rfl⟩
theorem w100_302 {x : Int32} {l0 l1 l2 l3 l4 l5 l6 l7 l8 l9 l10 l11 l12 l13 l14 l15 l16 l17 l18 l19 l20 l21 l22 l23 l24 l25 l26 l27 : Slot} : W (pj lw) 100 302 (l0 :: l1 :: l2 :: l3 :: l4 :: l5 :: l6 :: l7 :: l8 :: l9 :: l10 :: l11 :: l12 :: l13 :: l14 :: l15 :: l16 :: l17 :: l18 :: l19 :: l20 :: l21 :: l22 :: l23 :: l24 :: l25 :: l26 :: l27 :: .unset :: L) (.int x :: S) k n H Q ↔ W (pj lw) 100 304 (l0 :: l1 :: l2 :: l3 :: l4 :: l5 :: l6 :: l7 :: l8 :: l9 :: l10 :: l11 :: l12 :: l13 :: l14 :: l15 :: l16 :: l17 :: l18 :: l19 :: l20 :: l21 :: l22 :: l23 :: l24 :: l25 :: l26 :: l27 :: .val (.int x) :: L) S k n H Q := W_ist (rfl : (pj lw).1 100 302 = some (.istore 28, 2, 0)) rfl rfl
theorem w100_304 {x : Nat} {l0 l1 l2 l3 l4 l5 l6 l7 l8 l9 l10 l11 l12 l13 : Slot} : W (pj lw) 100 304 (l0 :: l1 :: l2 :: l3 :: l4 :: l5 :: l6 :: l7 :: l8 :: l9 :: l10 :: l11 :: l12 :: l13 :: .val (.ref x) :: L) S k n H Q ↔ W (pj lw) 100 306 (l0 :: l1 :: l2 :: l3 :: l4 :: l5 :: l6 :: l7 :: l8 :: l9 :: l10 :: l11 :: l12 :: l13 :: .val (.ref x) :: L) (.ref x :: S) k n H Q := W_s (rfl : (pj lw).1 100 304 = some (.aload 14, 2, 0)) rfl rfl rfl
theorem w100_306 {a : Nat} : W (pj lw) 100 306 L (.ref a :: S) k n H Q ↔ ((isO H a = true ∧ cs S + (1 + 11) + 0 ≤ 208) ∧ Cl (pj lw) 9 [.ref a] H (fun v H => W (pj lw) 100 309 L (v.toList ++ S) k n H Q)) := W_inst (as := []) (rfl : (pj lw).1 100 306 = some (.invokevirtual 32, 3, 9)) rfl rfl rfl (Nat.le_of_ble_eq_true rfl) (Nat.le_of_ble_eq_true rfl) ⟨rfl, rfl⟩
theorem w100_309 {x : Int32} {l0 l1 l2 l3 l4 l5 l6 l7 l8 l9 l10 l11 l12 l13 l14 l15 l16 l17 l18 l19 l20 l21 l22 l23 l24 l25 l26 l27 l28 : Slot} : W (pj lw) 100 309 (l0 :: l1 :: l2 :: l3 :: l4 :: l5 :: l6 :: l7 :: l8 :: l9 :: l10 :: l11 :: l12 :: l13 :: l14 :: l15 :: l16 :: l17 :: l18 :: l19 :: l20 :: l21 :: l22 :: l23 :: l24 :: l25 :: l26 :: l27 :: l28 :: .unset :: L) (.int x :: S) k n H Q ↔ W (pj lw) 100 311 (l0 :: l1 :: l2 :: l3 :: l4 :: l5 :: l6 :: l7 :: l8 :: l9 :: l10 :: l11 :: l12 :: l13 :: l14 :: l15 :: l16 :: l17 :: l18 :: l19 :: l20 :: l21 :: l22 :: l23 :: l24 :: l25 :: l26 :: l27 :: l28 :: .val (.int x) :: L) S k n H Q := W_ist (rfl : (pj lw).1 100 309 = some (.istore 29, 2, 0)) rfl rfl
theorem w100_311 {x : Nat} {l0 l1 l2 l3 l4 l5 l6 l7 l8 l9 l10 l11 l12 l13 : Slot} : W (pj lw) 100 311 (l0 :: l1 :: l2 :: l3 :: l4 :: l5 :: l6 :: l7 :: l8 :: l9 :: l10 :: l11 :: l12 :: l13 :: .val (.ref x) :: L) S k n H Q ↔ W (pj lw) 100 313 (l0 :: l1 :: l2 :: l3 :: l4 :: l5 :: l6 :: l7 :: l8 :: l9 :: l10 :: l11 :: l12 :: l13 :: .val (.ref x) :: L) (.ref x :: S) k n H Q := W_s (rfl : (pj lw).1 100 311 = some (.aload 14, 2, 0)) rfl rfl rfl
theorem w100_313 : W (pj lw) 100 313 L S k n H Q ↔ W (pj lw) 100 314 L (.int 0 :: S) k n H Q := W_s (rfl : (pj lw).1 100 313 = some (.iconst 0, 1, 0)) rfl rfl rfl
theorem w100_314 {a : Nat} {x0 : Int32} : W (pj lw) 100 314 L (.int x0 :: .ref a :: S) k n H Q ↔ ((isO H a = true ∧ cs S + (2 + 11) + 0 ≤ 208) ∧ Cl (pj lw) 10 [.ref a, .int x0] H (fun v H => W (pj lw) 100 317 L (v.toList ++ S) k n H Q)) := W_inst (as := [.int x0]) (rfl : (pj lw).1 100 314 = some (.invokevirtual 35, 3, 10)) rfl rfl rfl (Nat.le_of_ble_eq_true rfl) (Nat.le_of_ble_eq_true rfl) ⟨rfl, rfl⟩
theorem w100_317 {x : Int32} {l0 l1 l2 l3 l4 l5 l6 l7 l8 l9 l10 l11 l12 l13 l14 l15 l16 l17 l18 l19 l20 l21 l22 l23 l24 l25 l26 l27 l28 l29 : Slot} : W (pj lw) 100 317 (l0 :: l1 :: l2 :: l3 :: l4 :: l5 :: l6 :: l7 :: l8 :: l9 :: l10 :: l11 :: l12 :: l13 :: l14 :: l15 :: l16 :: l17 :: l18 :: l19 :: l20 :: l21 :: l22 :: l23 :: l24 :: l25 :: l26 :: l27 :: l28 :: l29 :: .unset :: L) (.int x :: S) k n H Q ↔ W (pj lw) 100 319 (l0 :: l1 :: l2 :: l3 :: l4 :: l5 :: l6 :: l7 :: l8 :: l9 :: l10 :: l11 :: l12 :: l13 :: l14 :: l15 :: l16 :: l17 :: l18 :: l19 :: l20 :: l21 :: l22 :: l23 :: l24 :: l25 :: l26 :: l27 :: l28 :: l29 :: .val (.int x) :: L) S k n H Q := W_ist (rfl : (pj lw).1 100 317 = some (.istore 30, 2, 0)) rfl rfl
theorem w100_319 {x : Nat} {l0 l1 l2 l3 l4 l5 l6 l7 l8 l9 l10 l11 l12 l13 : Slot} : W (pj lw) 100 319 (l0 :: l1 :: l2 :: l3 :: l4 :: l5 :: l6 :: l7 :: l8 :: l9 :: l10 :: l11 :: l12 :: l13 :: .val (.ref x) :: L) S k n H Q ↔ W (pj lw) 100 321 (l0 :: l1 :: l2 :: l3 :: l4 :: l5 :: l6 :: l7 :: l8 :: l9 :: l10 :: l11 :: l12 :: l13 :: .val (.ref x) :: L) (.ref x :: S) k n H Q := W_s (rfl : (pj lw).1 100 319 = some (.aload 14, 2, 0)) rfl rfl rfl
theorem w100_321 : W (pj lw) 100 321 L S k n H Q ↔ W (pj lw) 100 322 L (.int 1 :: S) k n H Q := W_s (rfl : (pj lw).1 100 321 = some (.iconst 1, 1, 0)) rfl rfl rfl
theorem w100_322 {a : Nat} {x0 : Int32} : W (pj lw) 100 322 L (.int x0 :: .ref a :: S) k n H Q ↔ ((isO H a = true ∧ cs S + (2 + 11) + 0 ≤ 208) ∧ Cl (pj lw) 10 [.ref a, .int x0] H (fun v H => W (pj lw) 100 325 L (v.toList ++ S) k n H Q)) := W_inst (as := [.int x0]) (rfl : (pj lw).1 100 322 = some (.invokevirtual 35, 3, 10)) rfl rfl rfl (Nat.le_of_ble_eq_true rfl) (Nat.le_of_ble_eq_true rfl) ⟨rfl, rfl⟩
theorem w100_325 {x : Int32} {l0 l1 l2 l3 l4 l5 l6 l7 l8 l9 l10 l11 l12 l13 l14 l15 l16 l17 l18 l19 l20 l21 l22 l23 l24 l25 l26 l27 l28 l29 l30 : Slot} : W (pj lw) 100 325 (l0 :: l1 :: l2 :: l3 :: l4 :: l5 :: l6 :: l7 :: l8 :: l9 :: l10 :: l11 :: l12 :: l13 :: l14 :: l15 :: l16 :: l17 :: l18 :: l19 :: l20 :: l21 :: l22 :: l23 :: l24 :: l25 :: l26 :: l27 :: l28 :: l29 :: l30 :: .unset :: L) (.int x :: S) k n H Q ↔ W (pj lw) 100 327 (l0 :: l1 :: l2 :: l3 :: l4 :: l5 :: l6 :: l7 :: l8 :: l9 :: l10 :: l11 :: l12 :: l13 :: l14 :: l15 :: l16 :: l17 :: l18 :: l19 :: l20 :: l21 :: l22 :: l23 :: l24 :: l25 :: l26 :: l27 :: l28 :: l29 :: l30 :: .val (.int x) :: L) S k n H Q := W_ist (rfl : (pj lw).1 100 325 = some (.istore 31, 2, 0)) rfl rfl
theorem w100_327 {x : Nat} {l0 l1 l2 l3 l4 l5 l6 l7 l8 l9 l10 l11 l12 l13 : Slot} : W (pj lw) 100 327 (l0 :: l1 :: l2 :: l3 :: l4 :: l5 :: l6 :: l7 :: l8 :: l9 :: l10 :: l11 :: l12 :: l13 :: .val (.ref x) :: L) S k n H Q ↔ W (pj lw) 100 329 (l0 :: l1 :: l2 :: l3 :: l4 :: l5 :: l6 :: l7 :: l8 :: l9 :: l10 :: l11 :: l12 :: l13 :: .val (.ref x) :: L) (.ref x :: S) k n H Q := W_s (rfl : (pj lw).1 100 327 = some (.aload 14, 2, 0)) rfl rfl rfl
theorem w100_329 : W (pj lw) 100 329 L S k n H Q ↔ W (pj lw) 100 330 L (.int 0 :: S) k n H Q := W_s (rfl : (pj lw).1 100 329 = some (.iconst 0, 1, 0)) rfl rfl rfl
theorem w100_330 : W (pj lw) 100 330 L S k n H Q ↔ W (pj lw) 100 331 L (.int 0 :: S) k n H Q := W_s (rfl : (pj lw).1 100 330 = some (.iconst 0, 1, 0)) rfl rfl rfl
theorem w100_331 {a : Nat} {x0 : Int32} {x1 : Int32} : W (pj lw) 100 331 L (.int x1 :: .int x0 :: .ref a :: S) k n H Q ↔ ((isO H a = true ∧ cs S + (3 + 11) + 13 ≤ 208) ∧ Cl (pj lw) 11 [.ref a, .int x0, .int x1] H (fun v H => W (pj lw) 100 334 L (v.toList ++ S) k n H Q)) := W_inst (as := [.int x0, .int x1]) (rfl : (pj lw).1 100 331 = some (.invokevirtual 39, 3, 11)) rfl rfl rfl (Nat.le_of_ble_eq_true rfl) (Nat.le_of_ble_eq_true rfl) ⟨rfl, rfl⟩
theorem w100_334 {x : Int32} {l0 l1 l2 l3 l4 l5 l6 l7 l8 l9 l10 l11 l12 l13 l14 l15 l16 l17 l18 l19 l20 l21 l22 l23 l24 l25 l26 l27 l28 l29 l30 l31 : Slot} : W (pj lw) 100 334 (l0 :: l1 :: l2 :: l3 :: l4 :: l5 :: l6 :: l7 :: l8 :: l9 :: l10 :: l11 :: l12 :: l13 :: l14 :: l15 :: l16 :: l17 :: l18 :: l19 :: l20 :: l21 :: l22 :: l23 :: l24 :: l25 :: l26 :: l27 :: l28 :: l29 :: l30 :: l31 :: .unset :: L) (.int x :: S) k n H Q ↔ W (pj lw) 100 336 (l0 :: l1 :: l2 :: l3 :: l4 :: l5 :: l6 :: l7 :: l8 :: l9 :: l10 :: l11 :: l12 :: l13 :: l14 :: l15 :: l16 :: l17 :: l18 :: l19 :: l20 :: l21 :: l22 :: l23 :: l24 :: l25 :: l26 :: l27 :: l28 :: l29 :: l30 :: l31 :: .val (.int x) :: L) S k n H Q := W_ist (rfl : (pj lw).1 100 334 = some (.istore 32, 2, 0)) rfl rfl
theorem w100_336 {x : Nat} {l0 l1 l2 l3 l4 l5 l6 l7 l8 l9 l10 l11 l12 l13 : Slot} : W (pj lw) 100 336 (l0 :: l1 :: l2 :: l3 :: l4 :: l5 :: l6 :: l7 :: l8 :: l9 :: l10 :: l11 :: l12 :: l13 :: .val (.ref x) :: L) S k n H Q ↔ W (pj lw) 100 338 (l0 :: l1 :: l2 :: l3 :: l4 :: l5 :: l6 :: l7 :: l8 :: l9 :: l10 :: l11 :: l12 :: l13 :: .val (.ref x) :: L) (.ref x :: S) k n H Q := W_s (rfl : (pj lw).1 100 336 = some (.aload 14, 2, 0)) rfl rfl rfl
theorem w100_338 : W (pj lw) 100 338 L S k n H Q ↔ W (pj lw) 100 339 L (.int 0 :: S) k n H Q := W_s (rfl : (pj lw).1 100 338 = some (.iconst 0, 1, 0)) rfl rfl rfl
theorem w100_339 : W (pj lw) 100 339 L S k n H Q ↔ W (pj lw) 100 340 L (.int 1 :: S) k n H Q := W_s (rfl : (pj lw).1 100 339 = some (.iconst 1, 1, 0)) rfl rfl rfl
theorem w100_340 {a : Nat} {x0 : Int32} {x1 : Int32} : W (pj lw) 100 340 L (.int x1 :: .int x0 :: .ref a :: S) k n H Q ↔ ((isO H a = true ∧ cs S + (3 + 11) + 13 ≤ 208) ∧ Cl (pj lw) 11 [.ref a, .int x0, .int x1] H (fun v H => W (pj lw) 100 343 L (v.toList ++ S) k n H Q)) := W_inst (as := [.int x0, .int x1]) (rfl : (pj lw).1 100 340 = some (.invokevirtual 39, 3, 11)) rfl rfl rfl (Nat.le_of_ble_eq_true rfl) (Nat.le_of_ble_eq_true rfl) ⟨rfl, rfl⟩
theorem w100_343 {x : Int32} {l0 l1 l2 l3 l4 l5 l6 l7 l8 l9 l10 l11 l12 l13 l14 l15 l16 l17 l18 l19 l20 l21 l22 l23 l24 l25 l26 l27 l28 l29 l30 l31 l32 : Slot} : W (pj lw) 100 343 (l0 :: l1 :: l2 :: l3 :: l4 :: l5 :: l6 :: l7 :: l8 :: l9 :: l10 :: l11 :: l12 :: l13 :: l14 :: l15 :: l16 :: l17 :: l18 :: l19 :: l20 :: l21 :: l22 :: l23 :: l24 :: l25 :: l26 :: l27 :: l28 :: l29 :: l30 :: l31 :: l32 :: .unset :: L) (.int x :: S) k n H Q ↔ W (pj lw) 100 345 (l0 :: l1 :: l2 :: l3 :: l4 :: l5 :: l6 :: l7 :: l8 :: l9 :: l10 :: l11 :: l12 :: l13 :: l14 :: l15 :: l16 :: l17 :: l18 :: l19 :: l20 :: l21 :: l22 :: l23 :: l24 :: l25 :: l26 :: l27 :: l28 :: l29 :: l30 :: l31 :: l32 :: .val (.int x) :: L) S k n H Q := W_ist (rfl : (pj lw).1 100 343 = some (.istore 33, 2, 0)) rfl rfl
theorem w100_345 {x : Nat} {l0 l1 l2 l3 l4 l5 l6 l7 l8 l9 l10 l11 l12 l13 : Slot} : W (pj lw) 100 345 (l0 :: l1 :: l2 :: l3 :: l4 :: l5 :: l6 :: l7 :: l8 :: l9 :: l10 :: l11 :: l12 :: l13 :: .val (.ref x) :: L) S k n H Q ↔ W (pj lw) 100 347 (l0 :: l1 :: l2 :: l3 :: l4 :: l5 :: l6 :: l7 :: l8 :: l9 :: l10 :: l11 :: l12 :: l13 :: .val (.ref x) :: L) (.ref x :: S) k n H Q := W_s (rfl : (pj lw).1 100 345 = some (.aload 14, 2, 0)) rfl rfl rfl
theorem w100_347 : W (pj lw) 100 347 L S k n H Q ↔ W (pj lw) 100 348 L (.int 1 :: S) k n H Q := W_s (rfl : (pj lw).1 100 347 = some (.iconst 1, 1, 0)) rfl rfl rfl
theorem w100_348 : W (pj lw) 100 348 L S k n H Q ↔ W (pj lw) 100 349 L (.int 0 :: S) k n H Q := W_s (rfl : (pj lw).1 100 348 = some (.iconst 0, 1, 0)) rfl rfl rfl
theorem w100_349 {a : Nat} {x0 : Int32} {x1 : Int32} : W (pj lw) 100 349 L (.int x1 :: .int x0 :: .ref a :: S) k n H Q ↔ ((isO H a = true ∧ cs S + (3 + 11) + 13 ≤ 208) ∧ Cl (pj lw) 11 [.ref a, .int x0, .int x1] H (fun v H => W (pj lw) 100 352 L (v.toList ++ S) k n H Q)) := W_inst (as := [.int x0, .int x1]) (rfl : (pj lw).1 100 349 = some (.invokevirtual 39, 3, 11)) rfl rfl rfl (Nat.le_of_ble_eq_true rfl) (Nat.le_of_ble_eq_true rfl) ⟨rfl, rfl⟩
theorem w100_352 {x : Int32} {l0 l1 l2 l3 l4 l5 l6 l7 l8 l9 l10 l11 l12 l13 l14 l15 l16 l17 l18 l19 l20 l21 l22 l23 l24 l25 l26 l27 l28 l29 l30 l31 l32 l33 : Slot} : W (pj lw) 100 352 (l0 :: l1 :: l2 :: l3 :: l4 :: l5 :: l6 :: l7 :: l8 :: l9 :: l10 :: l11 :: l12 :: l13 :: l14 :: l15 :: l16 :: l17 :: l18 :: l19 :: l20 :: l21 :: l22 :: l23 :: l24 :: l25 :: l26 :: l27 :: l28 :: l29 :: l30 :: l31 :: l32 :: l33 :: .unset :: L) (.int x :: S) k n H Q ↔ W (pj lw) 100 354 (l0 :: l1 :: l2 :: l3 :: l4 :: l5 :: l6 :: l7 :: l8 :: l9 :: l10 :: l11 :: l12 :: l13 :: l14 :: l15 :: l16 :: l17 :: l18 :: l19 :: l20 :: l21 :: l22 :: l23 :: l24 :: l25 :: l26 :: l27 :: l28 :: l29 :: l30 :: l31 :: l32 :: l33 :: .val (.int x) :: L) S k n H Q := W_ist (rfl : (pj lw).1 100 352 = some (.istore 34, 2, 0)) rfl rfl
theorem w100_354 {x : Nat} {l0 l1 l2 l3 l4 l5 l6 l7 l8 l9 l10 l11 l12 l13 : Slot} : W (pj lw) 100 354 (l0 :: l1 :: l2 :: l3 :: l4 :: l5 :: l6 :: l7 :: l8 :: l9 :: l10 :: l11 :: l12 :: l13 :: .val (.ref x) :: L) S k n H Q ↔ W (pj lw) 100 356 (l0 :: l1 :: l2 :: l3 :: l4 :: l5 :: l6 :: l7 :: l8 :: l9 :: l10 :: l11 :: l12 :: l13 :: .val (.ref x) :: L) (.ref x :: S) k n H Q := W_s (rfl : (pj lw).1 100 354 = some (.aload 14, 2, 0)) rfl rfl rfl
theorem w100_356 : W (pj lw) 100 356 L S k n H Q ↔ W (pj lw) 100 357 L (.int 1 :: S) k n H Q := W_s (rfl : (pj lw).1 100 356 = some (.iconst 1, 1, 0)) rfl rfl rfl
theorem w100_357 : W (pj lw) 100 357 L S k n H Q ↔ W (pj lw) 100 358 L (.int 1 :: S) k n H Q := W_s (rfl : (pj lw).1 100 357 = some (.iconst 1, 1, 0)) rfl rfl rfl
theorem w100_358 {a : Nat} {x0 : Int32} {x1 : Int32} : W (pj lw) 100 358 L (.int x1 :: .int x0 :: .ref a :: S) k n H Q ↔ ((isO H a = true ∧ cs S + (3 + 11) + 13 ≤ 208) ∧ Cl (pj lw) 11 [.ref a, .int x0, .int x1] H (fun v H => W (pj lw) 100 361 L (v.toList ++ S) k n H Q)) := W_inst (as := [.int x0, .int x1]) (rfl : (pj lw).1 100 358 = some (.invokevirtual 39, 3, 11)) rfl rfl rfl (Nat.le_of_ble_eq_true rfl) (Nat.le_of_ble_eq_true rfl) ⟨rfl, rfl⟩
theorem w100_361 {x : Int32} {l0 l1 l2 l3 l4 l5 l6 l7 l8 l9 l10 l11 l12 l13 l14 l15 l16 l17 l18 l19 l20 l21 l22 l23 l24 l25 l26 l27 l28 l29 l30 l31 l32 l33 l34 : Slot} : W (pj lw) 100 361 (l0 :: l1 :: l2 :: l3 :: l4 :: l5 :: l6 :: l7 :: l8 :: l9 :: l10 :: l11 :: l12 :: l13 :: l14 :: l15 :: l16 :: l17 :: l18 :: l19 :: l20 :: l21 :: l22 :: l23 :: l24 :: l25 :: l26 :: l27 :: l28 :: l29 :: l30 :: l31 :: l32 :: l33 :: l34 :: .unset :: L) (.int x :: S) k n H Q ↔ W (pj lw) 100 363 (l0 :: l1 :: l2 :: l3 :: l4 :: l5 :: l6 :: l7 :: l8 :: l9 :: l10 :: l11 :: l12 :: l13 :: l14 :: l15 :: l16 :: l17 :: l18 :: l19 :: l20 :: l21 :: l22 :: l23 :: l24 :: l25 :: l26 :: l27 :: l28 :: l29 :: l30 :: l31 :: l32 :: l33 :: l34 :: .val (.int x) :: L) S k n H Q := W_ist (rfl : (pj lw).1 100 361 = some (.istore 35, 2, 0)) rfl rfl
theorem w100_363 {x : Nat} {l0 l1 l2 l3 l4 l5 l6 l7 l8 l9 l10 l11 l12 l13 : Slot} : W (pj lw) 100 363 (l0 :: l1 :: l2 :: l3 :: l4 :: l5 :: l6 :: l7 :: l8 :: l9 :: l10 :: l11 :: l12 :: l13 :: .val (.ref x) :: L) S k n H Q ↔ W (pj lw) 100 365 (l0 :: l1 :: l2 :: l3 :: l4 :: l5 :: l6 :: l7 :: l8 :: l9 :: l10 :: l11 :: l12 :: l13 :: .val (.ref x) :: L) (.ref x :: S) k n H Q := W_s (rfl : (pj lw).1 100 363 = some (.aload 14, 2, 0)) rfl rfl rfl
theorem w100_365 : W (pj lw) 100 365 L S k n H Q ↔ W (pj lw) 100 366 L (.int 2 :: S) k n H Q := W_s (rfl : (pj lw).1 100 365 = some (.iconst 2, 1, 0)) rfl rfl rfl
theorem w100_366 : W (pj lw) 100 366 L S k n H Q ↔ W (pj lw) 100 367 L (.int 0 :: S) k n H Q := W_s (rfl : (pj lw).1 100 366 = some (.iconst 0, 1, 0)) rfl rfl rfl
theorem w100_367 {a : Nat} {x0 : Int32} {x1 : Int32} : W (pj lw) 100 367 L (.int x1 :: .int x0 :: .ref a :: S) k n H Q ↔ ((isO H a = true ∧ cs S + (3 + 11) + 13 ≤ 208) ∧ Cl (pj lw) 11 [.ref a, .int x0, .int x1] H (fun v H => W (pj lw) 100 370 L (v.toList ++ S) k n H Q)) := W_inst (as := [.int x0, .int x1]) (rfl : (pj lw).1 100 367 = some (.invokevirtual 39, 3, 11)) rfl rfl rfl (Nat.le_of_ble_eq_true rfl) (Nat.le_of_ble_eq_true rfl) ⟨rfl, rfl⟩
theorem w100_370 {x : Int32} {l0 l1 l2 l3 l4 l5 l6 l7 l8 l9 l10 l11 l12 l13 l14 l15 l16 l17 l18 l19 l20 l21 l22 l23 l24 l25 l26 l27 l28 l29 l30 l31 l32 l33 l34 l35 : Slot} : W (pj lw) 100 370 (l0 :: l1 :: l2 :: l3 :: l4 :: l5 :: l6 :: l7 :: l8 :: l9 :: l10 :: l11 :: l12 :: l13 :: l14 :: l15 :: l16 :: l17 :: l18 :: l19 :: l20 :: l21 :: l22 :: l23 :: l24 :: l25 :: l26 :: l27 :: l28 :: l29 :: l30 :: l31 :: l32 :: l33 :: l34 :: l35 :: .unset :: L) (.int x :: S) k n H Q ↔ W (pj lw) 100 372 (l0 :: l1 :: l2 :: l3 :: l4 :: l5 :: l6 :: l7 :: l8 :: l9 :: l10 :: l11 :: l12 :: l13 :: l14 :: l15 :: l16 :: l17 :: l18 :: l19 :: l20 :: l21 :: l22 :: l23 :: l24 :: l25 :: l26 :: l27 :: l28 :: l29 :: l30 :: l31 :: l32 :: l33 :: l34 :: l35 :: .val (.int x) :: L) S k n H Q := W_ist (rfl : (pj lw).1 100 370 = some (.istore 36, 2, 0)) rfl rfl
theorem w100_372 {x : Nat} {l0 l1 l2 l3 l4 l5 l6 l7 l8 l9 l10 l11 l12 l13 : Slot} : W (pj lw) 100 372 (l0 :: l1 :: l2 :: l3 :: l4 :: l5 :: l6 :: l7 :: l8 :: l9 :: l10 :: l11 :: l12 :: l13 :: .val (.ref x) :: L) S k n H Q ↔ W (pj lw) 100 374 (l0 :: l1 :: l2 :: l3 :: l4 :: l5 :: l6 :: l7 :: l8 :: l9 :: l10 :: l11 :: l12 :: l13 :: .val (.ref x) :: L) (.ref x :: S) k n H Q := W_s (rfl : (pj lw).1 100 372 = some (.aload 14, 2, 0)) rfl rfl rfl
theorem w100_374 : W (pj lw) 100 374 L S k n H Q ↔ W (pj lw) 100 375 L (.int 2 :: S) k n H Q := W_s (rfl : (pj lw).1 100 374 = some (.iconst 2, 1, 0)) rfl rfl rfl
theorem w100_375 : W (pj lw) 100 375 L S k n H Q ↔ W (pj lw) 100 376 L (.int 1 :: S) k n H Q := W_s (rfl : (pj lw).1 100 375 = some (.iconst 1, 1, 0)) rfl rfl rfl
theorem w100_376 {a : Nat} {x0 : Int32} {x1 : Int32} : W (pj lw) 100 376 L (.int x1 :: .int x0 :: .ref a :: S) k n H Q ↔ ((isO H a = true ∧ cs S + (3 + 11) + 13 ≤ 208) ∧ Cl (pj lw) 11 [.ref a, .int x0, .int x1] H (fun v H => W (pj lw) 100 379 L (v.toList ++ S) k n H Q)) := W_inst (as := [.int x0, .int x1]) (rfl : (pj lw).1 100 376 = some (.invokevirtual 39, 3, 11)) rfl rfl rfl (Nat.le_of_ble_eq_true rfl) (Nat.le_of_ble_eq_true rfl) ⟨rfl, rfl⟩
theorem w100_379 {x : Int32} {l0 l1 l2 l3 l4 l5 l6 l7 l8 l9 l10 l11 l12 l13 l14 l15 l16 l17 l18 l19 l20 l21 l22 l23 l24 l25 l26 l27 l28 l29 l30 l31 l32 l33 l34 l35 l36 : Slot} : W (pj lw) 100 379 (l0 :: l1 :: l2 :: l3 :: l4 :: l5 :: l6 :: l7 :: l8 :: l9 :: l10 :: l11 :: l12 :: l13 :: l14 :: l15 :: l16 :: l17 :: l18 :: l19 :: l20 :: l21 :: l22 :: l23 :: l24 :: l25 :: l26 :: l27 :: l28 :: l29 :: l30 :: l31 :: l32 :: l33 :: l34 :: l35 :: l36 :: .unset :: L) (.int x :: S) k n H Q ↔ W (pj lw) 100 381 (l0 :: l1 :: l2 :: l3 :: l4 :: l5 :: l6 :: l7 :: l8 :: l9 :: l10 :: l11 :: l12 :: l13 :: l14 :: l15 :: l16 :: l17 :: l18 :: l19 :: l20 :: l21 :: l22 :: l23 :: l24 :: l25 :: l26 :: l27 :: l28 :: l29 :: l30 :: l31 :: l32 :: l33 :: l34 :: l35 :: l36 :: .val (.int x) :: L) S k n H Q := W_ist (rfl : (pj lw).1 100 379 = some (.istore 37, 2, 0)) rfl rfl
theorem w100_381 {x : Nat} {l0 l1 l2 l3 l4 l5 l6 l7 l8 l9 l10 l11 l12 l13 : Slot} : W (pj lw) 100 381 (l0 :: l1 :: l2 :: l3 :: l4 :: l5 :: l6 :: l7 :: l8 :: l9 :: l10 :: l11 :: l12 :: l13 :: .val (.ref x) :: L) S k n H Q ↔ W (pj lw) 100 383 (l0 :: l1 :: l2 :: l3 :: l4 :: l5 :: l6 :: l7 :: l8 :: l9 :: l10 :: l11 :: l12 :: l13 :: .val (.ref x) :: L) (.ref x :: S) k n H Q := W_s (rfl : (pj lw).1 100 381 = some (.aload 14, 2, 0)) rfl rfl rfl
theorem w100_383 : W (pj lw) 100 383 L S k n H Q ↔ W (pj lw) 100 384 L (.int 0 :: S) k n H Q := W_s (rfl : (pj lw).1 100 383 = some (.iconst 0, 1, 0)) rfl rfl rfl
theorem w100_384 {a : Nat} {x0 : Int32} : W (pj lw) 100 384 L (.int x0 :: .ref a :: S) k n H Q ↔ ((isO H a = true ∧ cs S + (2 + 11) + 13 ≤ 208) ∧ Cl (pj lw) 13 [.ref a, .int x0] H (fun v H => W (pj lw) 100 387 L (v.toList ++ S) k n H Q)) := W_inst (as := [.int x0]) (rfl : (pj lw).1 100 384 = some (.invokevirtual 42, 3, 13)) rfl rfl rfl (Nat.le_of_ble_eq_true rfl) (Nat.le_of_ble_eq_true rfl) ⟨rfl, rfl⟩
theorem w100_387uu {x : Int64} {l0 l1 l2 l3 l4 l5 l6 l7 l8 l9 l10 l11 l12 l13 l14 l15 l16 l17 l18 l19 l20 l21 l22 l23 l24 l25 l26 l27 l28 l29 l30 l31 l32 l33 l34 l35 l36 l37 : Slot} : W (pj lw) 100 387 (l0 :: l1 :: l2 :: l3 :: l4 :: l5 :: l6 :: l7 :: l8 :: l9 :: l10 :: l11 :: l12 :: l13 :: l14 :: l15 :: l16 :: l17 :: l18 :: l19 :: l20 :: l21 :: l22 :: l23 :: l24 :: l25 :: l26 :: l27 :: l28 :: l29 :: l30 :: l31 :: l32 :: l33 :: l34 :: l35 :: l36 :: l37 :: .unset :: .unset :: L) (.long x :: S) k n H Q ↔ W (pj lw) 100 389 (l0 :: l1 :: l2 :: l3 :: l4 :: l5 :: l6 :: l7 :: l8 :: l9 :: l10 :: l11 :: l12 :: l13 :: l14 :: l15 :: l16 :: l17 :: l18 :: l19 :: l20 :: l21 :: l22 :: l23 :: l24 :: l25 :: l26 :: l27 :: l28 :: l29 :: l30 :: l31 :: l32 :: l33 :: l34 :: l35 :: l36 :: l37 :: .val (.long x) :: .second :: L) S k n H Q := W_lst (rfl : (pj lw).1 100 387 = some (.lstore 38, 2, 0)) rfl rfl rfl rfl
theorem w100_389 {x : Nat} {l0 l1 l2 l3 l4 l5 l6 l7 l8 l9 l10 l11 l12 l13 : Slot} : W (pj lw) 100 389 (l0 :: l1 :: l2 :: l3 :: l4 :: l5 :: l6 :: l7 :: l8 :: l9 :: l10 :: l11 :: l12 :: l13 :: .val (.ref x) :: L) S k n H Q ↔ W (pj lw) 100 391 (l0 :: l1 :: l2 :: l3 :: l4 :: l5 :: l6 :: l7 :: l8 :: l9 :: l10 :: l11 :: l12 :: l13 :: .val (.ref x) :: L) (.ref x :: S) k n H Q := W_s (rfl : (pj lw).1 100 389 = some (.aload 14, 2, 0)) rfl rfl rfl
theorem w100_391 : W (pj lw) 100 391 L S k n H Q ↔ W (pj lw) 100 392 L (.int 1 :: S) k n H Q := W_s (rfl : (pj lw).1 100 391 = some (.iconst 1, 1, 0)) rfl rfl rfl
theorem w100_392 {a : Nat} {x0 : Int32} : W (pj lw) 100 392 L (.int x0 :: .ref a :: S) k n H Q ↔ ((isO H a = true ∧ cs S + (2 + 11) + 13 ≤ 208) ∧ Cl (pj lw) 13 [.ref a, .int x0] H (fun v H => W (pj lw) 100 395 L (v.toList ++ S) k n H Q)) := W_inst (as := [.int x0]) (rfl : (pj lw).1 100 392 = some (.invokevirtual 42, 3, 13)) rfl rfl rfl (Nat.le_of_ble_eq_true rfl) (Nat.le_of_ble_eq_true rfl) ⟨rfl, rfl⟩
theorem w100_395uu {x : Int64} {l0 l1 l2 l3 l4 l5 l6 l7 l8 l9 l10 l11 l12 l13 l14 l15 l16 l17 l18 l19 l20 l21 l22 l23 l24 l25 l26 l27 l28 l29 l30 l31 l32 l33 l34 l35 l36 l37 l38 l39 : Slot} : W (pj lw) 100 395 (l0 :: l1 :: l2 :: l3 :: l4 :: l5 :: l6 :: l7 :: l8 :: l9 :: l10 :: l11 :: l12 :: l13 :: l14 :: l15 :: l16 :: l17 :: l18 :: l19 :: l20 :: l21 :: l22 :: l23 :: l24 :: l25 :: l26 :: l27 :: l28 :: l29 :: l30 :: l31 :: l32 :: l33 :: l34 :: l35 :: l36 :: l37 :: l38 :: l39 :: .unset :: .unset :: L) (.long x :: S) k n H Q ↔ W (pj lw) 100 397 (l0 :: l1 :: l2 :: l3 :: l4 :: l5 :: l6 :: l7 :: l8 :: l9 :: l10 :: l11 :: l12 :: l13 :: l14 :: l15 :: l16 :: l17 :: l18 :: l19 :: l20 :: l21 :: l22 :: l23 :: l24 :: l25 :: l26 :: l27 :: l28 :: l29 :: l30 :: l31 :: l32 :: l33 :: l34 :: l35 :: l36 :: l37 :: l38 :: l39 :: .val (.long x) :: .second :: L) S k n H Q := W_lst (rfl : (pj lw).1 100 395 = some (.lstore 40, 2, 0)) rfl rfl rfl rfl
theorem w100_397 {x : Nat} {l0 l1 l2 l3 l4 l5 l6 l7 l8 l9 l10 l11 l12 l13 : Slot} : W (pj lw) 100 397 (l0 :: l1 :: l2 :: l3 :: l4 :: l5 :: l6 :: l7 :: l8 :: l9 :: l10 :: l11 :: l12 :: l13 :: .val (.ref x) :: L) S k n H Q ↔ W (pj lw) 100 399 (l0 :: l1 :: l2 :: l3 :: l4 :: l5 :: l6 :: l7 :: l8 :: l9 :: l10 :: l11 :: l12 :: l13 :: .val (.ref x) :: L) (.ref x :: S) k n H Q := W_s (rfl : (pj lw).1 100 397 = some (.aload 14, 2, 0)) rfl rfl rfl
theorem w100_399 : W (pj lw) 100 399 L S k n H Q ↔ W (pj lw) 100 400 L (.int 2 :: S) k n H Q := W_s (rfl : (pj lw).1 100 399 = some (.iconst 2, 1, 0)) rfl rfl rfl
theorem w100_400 {a : Nat} {x0 : Int32} : W (pj lw) 100 400 L (.int x0 :: .ref a :: S) k n H Q ↔ ((isO H a = true ∧ cs S + (2 + 11) + 13 ≤ 208) ∧ Cl (pj lw) 13 [.ref a, .int x0] H (fun v H => W (pj lw) 100 403 L (v.toList ++ S) k n H Q)) := W_inst (as := [.int x0]) (rfl : (pj lw).1 100 400 = some (.invokevirtual 42, 3, 13)) rfl rfl rfl (Nat.le_of_ble_eq_true rfl) (Nat.le_of_ble_eq_true rfl) ⟨rfl, rfl⟩
theorem w100_403uu {x : Int64} {l0 l1 l2 l3 l4 l5 l6 l7 l8 l9 l10 l11 l12 l13 l14 l15 l16 l17 l18 l19 l20 l21 l22 l23 l24 l25 l26 l27 l28 l29 l30 l31 l32 l33 l34 l35 l36 l37 l38 l39 l40 l41 : Slot} : W (pj lw) 100 403 (l0 :: l1 :: l2 :: l3 :: l4 :: l5 :: l6 :: l7 :: l8 :: l9 :: l10 :: l11 :: l12 :: l13 :: l14 :: l15 :: l16 :: l17 :: l18 :: l19 :: l20 :: l21 :: l22 :: l23 :: l24 :: l25 :: l26 :: l27 :: l28 :: l29 :: l30 :: l31 :: l32 :: l33 :: l34 :: l35 :: l36 :: l37 :: l38 :: l39 :: l40 :: l41 :: .unset :: .unset :: L) (.long x :: S) k n H Q ↔ W (pj lw) 100 405 (l0 :: l1 :: l2 :: l3 :: l4 :: l5 :: l6 :: l7 :: l8 :: l9 :: l10 :: l11 :: l12 :: l13 :: l14 :: l15 :: l16 :: l17 :: l18 :: l19 :: l20 :: l21 :: l22 :: l23 :: l24 :: l25 :: l26 :: l27 :: l28 :: l29 :: l30 :: l31 :: l32 :: l33 :: l34 :: l35 :: l36 :: l37 :: l38 :: l39 :: l40 :: l41 :: .val (.long x) :: .second :: L) S k n H Q := W_lst (rfl : (pj lw).1 100 403 = some (.lstore 42, 2, 0)) rfl rfl rfl rfl
theorem w100_405 {x : Int32} {l0 l1 l2 l3 l4 l5 l6 l7 l8 l9 l10 l11 l12 l13 l14 : Slot} : W (pj lw) 100 405 (l0 :: l1 :: l2 :: l3 :: l4 :: l5 :: l6 :: l7 :: l8 :: l9 :: l10 :: l11 :: l12 :: l13 :: l14 :: .val (.int x) :: L) S k n H Q ↔ W (pj lw) 100 407 (l0 :: l1 :: l2 :: l3 :: l4 :: l5 :: l6 :: l7 :: l8 :: l9 :: l10 :: l11 :: l12 :: l13 :: l14 :: .val (.int x) :: L) (.int x :: S) k n H Q := W_s (rfl : (pj lw).1 100 405 = some (.iload 15, 2, 0)) rfl rfl rfl
theorem w100_407 {x : Int32} : W (pj lw) 100 407 L (.int x :: S) k n H Q ↔ (if x = 0 then W (pj lw) 100 410 L S k n H Q else W (pj lw) 100 514 L S k n H Q) := W_if_ne (rfl : (pj lw).1 100 407 = some (.ifCond .ne 107, 3, 0)) rfl
theorem w100_410 {x : Int32} {l0 l1 l2 l3 l4 l5 l6 l7 l8 l9 l10 l11 l12 l13 l14 l15 l16 l17 l18 l19 l20 l21 l22 l23 l24 l25 l26 : Slot} : W (pj lw) 100 410 (l0 :: l1 :: l2 :: l3 :: l4 :: l5 :: l6 :: l7 :: l8 :: l9 :: l10 :: l11 :: l12 :: l13 :: l14 :: l15 :: l16 :: l17 :: l18 :: l19 :: l20 :: l21 :: l22 :: l23 :: l24 :: l25 :: l26 :: .val (.int x) :: L) S k n H Q ↔ W (pj lw) 100 412 (l0 :: l1 :: l2 :: l3 :: l4 :: l5 :: l6 :: l7 :: l8 :: l9 :: l10 :: l11 :: l12 :: l13 :: l14 :: l15 :: l16 :: l17 :: l18 :: l19 :: l20 :: l21 :: l22 :: l23 :: l24 :: l25 :: l26 :: .val (.int x) :: L) (.int x :: S) k n H Q := W_s (rfl : (pj lw).1 100 410 = some (.iload 27, 2, 0)) rfl rfl rfl
theorem w100_412 : W (pj lw) 100 412 L S k n H Q ↔ W (pj lw) 100 413 L (.int 3 :: S) k n H Q := W_s (rfl : (pj lw).1 100 412 = some (.iconst 3, 1, 0)) rfl rfl rfl
theorem w100_413 {x y : Int32} : W (pj lw) 100 413 L (.int y :: .int x :: S) k n H Q ↔ (if x = y then W (pj lw) 100 416 L S k n H Q else W (pj lw) 100 514 L S k n H Q) := W_icmp_ne (rfl : (pj lw).1 100 413 = some (.if_icmp .ne 101, 3, 0)) rfl
theorem w100_416 {x : Int32} {l0 l1 l2 l3 l4 l5 l6 l7 l8 l9 l10 l11 l12 l13 l14 l15 l16 l17 l18 l19 l20 l21 l22 l23 l24 l25 l26 l27 : Slot} : W (pj lw) 100 416 (l0 :: l1 :: l2 :: l3 :: l4 :: l5 :: l6 :: l7 :: l8 :: l9 :: l10 :: l11 :: l12 :: l13 :: l14 :: l15 :: l16 :: l17 :: l18 :: l19 :: l20 :: l21 :: l22 :: l23 :: l24 :: l25 :: l26 :: l27 :: .val (.int x) :: L) S k n H Q ↔ W (pj lw) 100 418 (l0 :: l1 :: l2 :: l3 :: l4 :: l5 :: l6 :: l7 :: l8 :: l9 :: l10 :: l11 :: l12 :: l13 :: l14 :: l15 :: l16 :: l17 :: l18 :: l19 :: l20 :: l21 :: l22 :: l23 :: l24 :: l25 :: l26 :: l27 :: .val (.int x) :: L) (.int x :: S) k n H Q := W_s (rfl : (pj lw).1 100 416 = some (.iload 28, 2, 0)) rfl rfl rfl
theorem w100_418 : W (pj lw) 100 418 L S k n H Q ↔ W (pj lw) 100 419 L (.int 1 :: S) k n H Q := W_s (rfl : (pj lw).1 100 418 = some (.iconst 1, 1, 0)) rfl rfl rfl
theorem w100_419 {x y : Int32} : W (pj lw) 100 419 L (.int y :: .int x :: S) k n H Q ↔ (if x = y then W (pj lw) 100 422 L S k n H Q else W (pj lw) 100 514 L S k n H Q) := W_icmp_ne (rfl : (pj lw).1 100 419 = some (.if_icmp .ne 95, 3, 0)) rfl
theorem w100_422 {x : Int32} {l0 l1 l2 l3 l4 l5 l6 l7 l8 l9 l10 l11 l12 l13 l14 l15 l16 l17 l18 l19 l20 l21 l22 l23 l24 l25 l26 l27 l28 : Slot} : W (pj lw) 100 422 (l0 :: l1 :: l2 :: l3 :: l4 :: l5 :: l6 :: l7 :: l8 :: l9 :: l10 :: l11 :: l12 :: l13 :: l14 :: l15 :: l16 :: l17 :: l18 :: l19 :: l20 :: l21 :: l22 :: l23 :: l24 :: l25 :: l26 :: l27 :: l28 :: .val (.int x) :: L) S k n H Q ↔ W (pj lw) 100 424 (l0 :: l1 :: l2 :: l3 :: l4 :: l5 :: l6 :: l7 :: l8 :: l9 :: l10 :: l11 :: l12 :: l13 :: l14 :: l15 :: l16 :: l17 :: l18 :: l19 :: l20 :: l21 :: l22 :: l23 :: l24 :: l25 :: l26 :: l27 :: l28 :: .val (.int x) :: L) (.int x :: S) k n H Q := W_s (rfl : (pj lw).1 100 422 = some (.iload 29, 2, 0)) rfl rfl rfl
theorem w100_424 : W (pj lw) 100 424 L S k n H Q ↔ W (pj lw) 100 425 L (.int 2 :: S) k n H Q := W_s (rfl : (pj lw).1 100 424 = some (.iconst 2, 1, 0)) rfl rfl rfl
theorem w100_425 {x y : Int32} : W (pj lw) 100 425 L (.int y :: .int x :: S) k n H Q ↔ (if x = y then W (pj lw) 100 428 L S k n H Q else W (pj lw) 100 514 L S k n H Q) := W_icmp_ne (rfl : (pj lw).1 100 425 = some (.if_icmp .ne 89, 3, 0)) rfl
theorem w100_428 {x : Int32} {l0 l1 l2 l3 l4 l5 l6 l7 l8 l9 l10 l11 l12 l13 l14 l15 l16 l17 l18 l19 l20 l21 l22 l23 l24 l25 l26 l27 l28 l29 : Slot} : W (pj lw) 100 428 (l0 :: l1 :: l2 :: l3 :: l4 :: l5 :: l6 :: l7 :: l8 :: l9 :: l10 :: l11 :: l12 :: l13 :: l14 :: l15 :: l16 :: l17 :: l18 :: l19 :: l20 :: l21 :: l22 :: l23 :: l24 :: l25 :: l26 :: l27 :: l28 :: l29 :: .val (.int x) :: L) S k n H Q ↔ W (pj lw) 100 430 (l0 :: l1 :: l2 :: l3 :: l4 :: l5 :: l6 :: l7 :: l8 :: l9 :: l10 :: l11 :: l12 :: l13 :: l14 :: l15 :: l16 :: l17 :: l18 :: l19 :: l20 :: l21 :: l22 :: l23 :: l24 :: l25 :: l26 :: l27 :: l28 :: l29 :: .val (.int x) :: L) (.int x :: S) k n H Q := W_s (rfl : (pj lw).1 100 428 = some (.iload 30, 2, 0)) rfl rfl rfl
theorem w100_430 {x : Int32} {l0 l1 l2 l3 l4 l5 : Slot} : W (pj lw) 100 430 (l0 :: l1 :: l2 :: l3 :: l4 :: l5 :: .val (.int x) :: L) S k n H Q ↔ W (pj lw) 100 432 (l0 :: l1 :: l2 :: l3 :: l4 :: l5 :: .val (.int x) :: L) (.int x :: S) k n H Q := W_s (rfl : (pj lw).1 100 430 = some (.iload 6, 2, 0)) rfl rfl rfl
theorem w100_432 : W (pj lw) 100 432 L S k n H Q ↔ W (pj lw) 100 434 L (.int 27 :: S) k n H Q := W_s (rfl : (pj lw).1 100 432 = some (.bipush 27, 2, 0)) rfl rfl rfl
theorem w100_434 {x y : Int32} : W (pj lw) 100 434 L (.int y :: .int x :: S) k n H Q ↔ W (pj lw) 100 435 L (.int (x * y) :: S) k n H Q := W_s (rfl : (pj lw).1 100 434 = some (.imul, 1, 0)) rfl rfl rfl
theorem w100_435 {x y : Int32} : W (pj lw) 100 435 L (.int y :: .int x :: S) k n H Q ↔ (if x = y then W (pj lw) 100 438 L S k n H Q else W (pj lw) 100 514 L S k n H Q) := W_icmp_ne (rfl : (pj lw).1 100 435 = some (.if_icmp .ne 79, 3, 0)) rfl
theorem w100_438 {x : Int32} {l0 l1 l2 l3 l4 l5 l6 l7 l8 l9 l10 l11 l12 l13 l14 l15 l16 l17 l18 l19 l20 l21 l22 l23 l24 l25 l26 l27 l28 l29 l30 : Slot} : W (pj lw) 100 438 (l0 :: l1 :: l2 :: l3 :: l4 :: l5 :: l6 :: l7 :: l8 :: l9 :: l10 :: l11 :: l12 :: l13 :: l14 :: l15 :: l16 :: l17 :: l18 :: l19 :: l20 :: l21 :: l22 :: l23 :: l24 :: l25 :: l26 :: l27 :: l28 :: l29 :: l30 :: .val (.int x) :: L) S k n H Q ↔ W (pj lw) 100 440 (l0 :: l1 :: l2 :: l3 :: l4 :: l5 :: l6 :: l7 :: l8 :: l9 :: l10 :: l11 :: l12 :: l13 :: l14 :: l15 :: l16 :: l17 :: l18 :: l19 :: l20 :: l21 :: l22 :: l23 :: l24 :: l25 :: l26 :: l27 :: l28 :: l29 :: l30 :: .val (.int x) :: L) (.int x :: S) k n H Q := W_s (rfl : (pj lw).1 100 438 = some (.iload 31, 2, 0)) rfl rfl rfl
theorem w100_440 {x : Int32} {l0 l1 l2 l3 l4 l5 l6 : Slot} : W (pj lw) 100 440 (l0 :: l1 :: l2 :: l3 :: l4 :: l5 :: l6 :: .val (.int x) :: L) S k n H Q ↔ W (pj lw) 100 442 (l0 :: l1 :: l2 :: l3 :: l4 :: l5 :: l6 :: .val (.int x) :: L) (.int x :: S) k n H Q := W_s (rfl : (pj lw).1 100 440 = some (.iload 7, 2, 0)) rfl rfl rfl
theorem w100_442 : W (pj lw) 100 442 L S k n H Q ↔ W (pj lw) 100 444 L (.int 27 :: S) k n H Q := W_s (rfl : (pj lw).1 100 442 = some (.bipush 27, 2, 0)) rfl rfl rfl
theorem w100_444 {x y : Int32} : W (pj lw) 100 444 L (.int y :: .int x :: S) k n H Q ↔ W (pj lw) 100 445 L (.int (x * y) :: S) k n H Q := W_s (rfl : (pj lw).1 100 444 = some (.imul, 1, 0)) rfl rfl rfl
theorem w100_445 {x y : Int32} : W (pj lw) 100 445 L (.int y :: .int x :: S) k n H Q ↔ (if x = y then W (pj lw) 100 448 L S k n H Q else W (pj lw) 100 514 L S k n H Q) := W_icmp_ne (rfl : (pj lw).1 100 445 = some (.if_icmp .ne 69, 3, 0)) rfl
theorem w100_448 {x : Int32} {l0 l1 l2 l3 l4 l5 l6 l7 l8 l9 l10 l11 l12 l13 l14 l15 l16 l17 l18 l19 l20 l21 l22 l23 l24 l25 l26 l27 l28 l29 l30 l31 : Slot} : W (pj lw) 100 448 (l0 :: l1 :: l2 :: l3 :: l4 :: l5 :: l6 :: l7 :: l8 :: l9 :: l10 :: l11 :: l12 :: l13 :: l14 :: l15 :: l16 :: l17 :: l18 :: l19 :: l20 :: l21 :: l22 :: l23 :: l24 :: l25 :: l26 :: l27 :: l28 :: l29 :: l30 :: l31 :: .val (.int x) :: L) S k n H Q ↔ W (pj lw) 100 450 (l0 :: l1 :: l2 :: l3 :: l4 :: l5 :: l6 :: l7 :: l8 :: l9 :: l10 :: l11 :: l12 :: l13 :: l14 :: l15 :: l16 :: l17 :: l18 :: l19 :: l20 :: l21 :: l22 :: l23 :: l24 :: l25 :: l26 :: l27 :: l28 :: l29 :: l30 :: l31 :: .val (.int x) :: L) (.int x :: S) k n H Q := W_s (rfl : (pj lw).1 100 448 = some (.iload 32, 2, 0)) rfl rfl rfl
theorem w100_450 {x : Int32} {l0 l1 l2 l3 l4 l5 l6 l7 : Slot} : W (pj lw) 100 450 (l0 :: l1 :: l2 :: l3 :: l4 :: l5 :: l6 :: l7 :: .val (.int x) :: L) S k n H Q ↔ W (pj lw) 100 452 (l0 :: l1 :: l2 :: l3 :: l4 :: l5 :: l6 :: l7 :: .val (.int x) :: L) (.int x :: S) k n H Q := W_s (rfl : (pj lw).1 100 450 = some (.iload 8, 2, 0)) rfl rfl rfl
theorem w100_452 {x y : Int32} : W (pj lw) 100 452 L (.int y :: .int x :: S) k n H Q ↔ (if x = y then W (pj lw) 100 455 L S k n H Q else W (pj lw) 100 514 L S k n H Q) := W_icmp_ne (rfl : (pj lw).1 100 452 = some (.if_icmp .ne 62, 3, 0)) rfl
theorem w100_455 {x : Int32} {l0 l1 l2 l3 l4 l5 l6 l7 l8 l9 l10 l11 l12 l13 l14 l15 l16 l17 l18 l19 l20 l21 l22 l23 l24 l25 l26 l27 l28 l29 l30 l31 l32 : Slot} : W (pj lw) 100 455 (l0 :: l1 :: l2 :: l3 :: l4 :: l5 :: l6 :: l7 :: l8 :: l9 :: l10 :: l11 :: l12 :: l13 :: l14 :: l15 :: l16 :: l17 :: l18 :: l19 :: l20 :: l21 :: l22 :: l23 :: l24 :: l25 :: l26 :: l27 :: l28 :: l29 :: l30 :: l31 :: l32 :: .val (.int x) :: L) S k n H Q ↔ W (pj lw) 100 457 (l0 :: l1 :: l2 :: l3 :: l4 :: l5 :: l6 :: l7 :: l8 :: l9 :: l10 :: l11 :: l12 :: l13 :: l14 :: l15 :: l16 :: l17 :: l18 :: l19 :: l20 :: l21 :: l22 :: l23 :: l24 :: l25 :: l26 :: l27 :: l28 :: l29 :: l30 :: l31 :: l32 :: .val (.int x) :: L) (.int x :: S) k n H Q := W_s (rfl : (pj lw).1 100 455 = some (.iload 33, 2, 0)) rfl rfl rfl
theorem w100_457 {x : Int32} {l0 l1 l2 l3 l4 l5 l6 l7 l8 : Slot} : W (pj lw) 100 457 (l0 :: l1 :: l2 :: l3 :: l4 :: l5 :: l6 :: l7 :: l8 :: .val (.int x) :: L) S k n H Q ↔ W (pj lw) 100 459 (l0 :: l1 :: l2 :: l3 :: l4 :: l5 :: l6 :: l7 :: l8 :: .val (.int x) :: L) (.int x :: S) k n H Q := W_s (rfl : (pj lw).1 100 457 = some (.iload 9, 2, 0)) rfl rfl rfl
theorem w100_459 {x y : Int32} : W (pj lw) 100 459 L (.int y :: .int x :: S) k n H Q ↔ (if x = y then W (pj lw) 100 462 L S k n H Q else W (pj lw) 100 514 L S k n H Q) := W_icmp_ne (rfl : (pj lw).1 100 459 = some (.if_icmp .ne 55, 3, 0)) rfl
theorem w100_462 {x : Int32} {l0 l1 l2 l3 l4 l5 l6 l7 l8 l9 l10 l11 l12 l13 l14 l15 l16 l17 l18 l19 l20 l21 l22 l23 l24 l25 l26 l27 l28 l29 l30 l31 l32 l33 : Slot} : W (pj lw) 100 462 (l0 :: l1 :: l2 :: l3 :: l4 :: l5 :: l6 :: l7 :: l8 :: l9 :: l10 :: l11 :: l12 :: l13 :: l14 :: l15 :: l16 :: l17 :: l18 :: l19 :: l20 :: l21 :: l22 :: l23 :: l24 :: l25 :: l26 :: l27 :: l28 :: l29 :: l30 :: l31 :: l32 :: l33 :: .val (.int x) :: L) S k n H Q ↔ W (pj lw) 100 464 (l0 :: l1 :: l2 :: l3 :: l4 :: l5 :: l6 :: l7 :: l8 :: l9 :: l10 :: l11 :: l12 :: l13 :: l14 :: l15 :: l16 :: l17 :: l18 :: l19 :: l20 :: l21 :: l22 :: l23 :: l24 :: l25 :: l26 :: l27 :: l28 :: l29 :: l30 :: l31 :: l32 :: l33 :: .val (.int x) :: L) (.int x :: S) k n H Q := W_s (rfl : (pj lw).1 100 462 = some (.iload 34, 2, 0)) rfl rfl rfl
theorem w100_464 {x : Int32} {l0 l1 l2 l3 l4 l5 l6 l7 l8 l9 : Slot} : W (pj lw) 100 464 (l0 :: l1 :: l2 :: l3 :: l4 :: l5 :: l6 :: l7 :: l8 :: l9 :: .val (.int x) :: L) S k n H Q ↔ W (pj lw) 100 466 (l0 :: l1 :: l2 :: l3 :: l4 :: l5 :: l6 :: l7 :: l8 :: l9 :: .val (.int x) :: L) (.int x :: S) k n H Q := W_s (rfl : (pj lw).1 100 464 = some (.iload 10, 2, 0)) rfl rfl rfl
theorem w100_466 {x y : Int32} : W (pj lw) 100 466 L (.int y :: .int x :: S) k n H Q ↔ (if x = y then W (pj lw) 100 469 L S k n H Q else W (pj lw) 100 514 L S k n H Q) := W_icmp_ne (rfl : (pj lw).1 100 466 = some (.if_icmp .ne 48, 3, 0)) rfl
theorem w100_469 {x : Int32} {l0 l1 l2 l3 l4 l5 l6 l7 l8 l9 l10 l11 l12 l13 l14 l15 l16 l17 l18 l19 l20 l21 l22 l23 l24 l25 l26 l27 l28 l29 l30 l31 l32 l33 l34 : Slot} : W (pj lw) 100 469 (l0 :: l1 :: l2 :: l3 :: l4 :: l5 :: l6 :: l7 :: l8 :: l9 :: l10 :: l11 :: l12 :: l13 :: l14 :: l15 :: l16 :: l17 :: l18 :: l19 :: l20 :: l21 :: l22 :: l23 :: l24 :: l25 :: l26 :: l27 :: l28 :: l29 :: l30 :: l31 :: l32 :: l33 :: l34 :: .val (.int x) :: L) S k n H Q ↔ W (pj lw) 100 471 (l0 :: l1 :: l2 :: l3 :: l4 :: l5 :: l6 :: l7 :: l8 :: l9 :: l10 :: l11 :: l12 :: l13 :: l14 :: l15 :: l16 :: l17 :: l18 :: l19 :: l20 :: l21 :: l22 :: l23 :: l24 :: l25 :: l26 :: l27 :: l28 :: l29 :: l30 :: l31 :: l32 :: l33 :: l34 :: .val (.int x) :: L) (.int x :: S) k n H Q := W_s (rfl : (pj lw).1 100 469 = some (.iload 35, 2, 0)) rfl rfl rfl
theorem w100_471 {x : Int32} : W (pj lw) 100 471 L (.int x :: S) k n H Q ↔ (if x = 0 then W (pj lw) 100 474 L S k n H Q else W (pj lw) 100 514 L S k n H Q) := W_if_ne (rfl : (pj lw).1 100 471 = some (.ifCond .ne 43, 3, 0)) rfl
theorem w100_474 {x : Int32} {l0 l1 l2 l3 l4 l5 l6 l7 l8 l9 l10 l11 l12 l13 l14 l15 l16 l17 l18 l19 l20 l21 l22 l23 l24 l25 l26 l27 l28 l29 l30 l31 l32 l33 l34 l35 : Slot} : W (pj lw) 100 474 (l0 :: l1 :: l2 :: l3 :: l4 :: l5 :: l6 :: l7 :: l8 :: l9 :: l10 :: l11 :: l12 :: l13 :: l14 :: l15 :: l16 :: l17 :: l18 :: l19 :: l20 :: l21 :: l22 :: l23 :: l24 :: l25 :: l26 :: l27 :: l28 :: l29 :: l30 :: l31 :: l32 :: l33 :: l34 :: l35 :: .val (.int x) :: L) S k n H Q ↔ W (pj lw) 100 476 (l0 :: l1 :: l2 :: l3 :: l4 :: l5 :: l6 :: l7 :: l8 :: l9 :: l10 :: l11 :: l12 :: l13 :: l14 :: l15 :: l16 :: l17 :: l18 :: l19 :: l20 :: l21 :: l22 :: l23 :: l24 :: l25 :: l26 :: l27 :: l28 :: l29 :: l30 :: l31 :: l32 :: l33 :: l34 :: l35 :: .val (.int x) :: L) (.int x :: S) k n H Q := W_s (rfl : (pj lw).1 100 474 = some (.iload 36, 2, 0)) rfl rfl rfl
theorem w100_476 {x : Int32} : W (pj lw) 100 476 L (.int x :: S) k n H Q ↔ (if x = 0 then W (pj lw) 100 479 L S k n H Q else W (pj lw) 100 514 L S k n H Q) := W_if_ne (rfl : (pj lw).1 100 476 = some (.ifCond .ne 38, 3, 0)) rfl
theorem w100_479 {x : Int32} {l0 l1 l2 l3 l4 l5 l6 l7 l8 l9 l10 l11 l12 l13 l14 l15 l16 l17 l18 l19 l20 l21 l22 l23 l24 l25 l26 l27 l28 l29 l30 l31 l32 l33 l34 l35 l36 : Slot} : W (pj lw) 100 479 (l0 :: l1 :: l2 :: l3 :: l4 :: l5 :: l6 :: l7 :: l8 :: l9 :: l10 :: l11 :: l12 :: l13 :: l14 :: l15 :: l16 :: l17 :: l18 :: l19 :: l20 :: l21 :: l22 :: l23 :: l24 :: l25 :: l26 :: l27 :: l28 :: l29 :: l30 :: l31 :: l32 :: l33 :: l34 :: l35 :: l36 :: .val (.int x) :: L) S k n H Q ↔ W (pj lw) 100 481 (l0 :: l1 :: l2 :: l3 :: l4 :: l5 :: l6 :: l7 :: l8 :: l9 :: l10 :: l11 :: l12 :: l13 :: l14 :: l15 :: l16 :: l17 :: l18 :: l19 :: l20 :: l21 :: l22 :: l23 :: l24 :: l25 :: l26 :: l27 :: l28 :: l29 :: l30 :: l31 :: l32 :: l33 :: l34 :: l35 :: l36 :: .val (.int x) :: L) (.int x :: S) k n H Q := W_s (rfl : (pj lw).1 100 479 = some (.iload 37, 2, 0)) rfl rfl rfl
theorem w100_481 {x : Int32} {l0 l1 l2 l3 l4 l5 l6 l7 l8 l9 l10 : Slot} : W (pj lw) 100 481 (l0 :: l1 :: l2 :: l3 :: l4 :: l5 :: l6 :: l7 :: l8 :: l9 :: l10 :: .val (.int x) :: L) S k n H Q ↔ W (pj lw) 100 483 (l0 :: l1 :: l2 :: l3 :: l4 :: l5 :: l6 :: l7 :: l8 :: l9 :: l10 :: .val (.int x) :: L) (.int x :: S) k n H Q := W_s (rfl : (pj lw).1 100 481 = some (.iload 11, 2, 0)) rfl rfl rfl
theorem w100_483 {x y : Int32} : W (pj lw) 100 483 L (.int y :: .int x :: S) k n H Q ↔ (if x = y then W (pj lw) 100 486 L S k n H Q else W (pj lw) 100 514 L S k n H Q) := W_icmp_ne (rfl : (pj lw).1 100 483 = some (.if_icmp .ne 31, 3, 0)) rfl
theorem w100_486 {x : Int64} {l0 l1 l2 l3 l4 l5 l6 l7 l8 l9 l10 l11 l12 l13 l14 l15 l16 l17 l18 l19 l20 l21 l22 l23 l24 l25 l26 l27 l28 l29 l30 l31 l32 l33 l34 l35 l36 l37 : Slot} : W (pj lw) 100 486 (l0 :: l1 :: l2 :: l3 :: l4 :: l5 :: l6 :: l7 :: l8 :: l9 :: l10 :: l11 :: l12 :: l13 :: l14 :: l15 :: l16 :: l17 :: l18 :: l19 :: l20 :: l21 :: l22 :: l23 :: l24 :: l25 :: l26 :: l27 :: l28 :: l29 :: l30 :: l31 :: l32 :: l33 :: l34 :: l35 :: l36 :: l37 :: .val (.long x) :: L) S k n H Q ↔ W (pj lw) 100 488 (l0 :: l1 :: l2 :: l3 :: l4 :: l5 :: l6 :: l7 :: l8 :: l9 :: l10 :: l11 :: l12 :: l13 :: l14 :: l15 :: l16 :: l17 :: l18 :: l19 :: l20 :: l21 :: l22 :: l23 :: l24 :: l25 :: l26 :: l27 :: l28 :: l29 :: l30 :: l31 :: l32 :: l33 :: l34 :: l35 :: l36 :: l37 :: .val (.long x) :: L) (.long x :: S) k n H Q := W_s (rfl : (pj lw).1 100 486 = some (.lload 38, 2, 0)) rfl rfl rfl
theorem w100_488 {x : Int64} {l0 l1 l2 l3 l4 l5 l6 l7 l8 l9 l10 l11 l12 l13 l14 l15 l16 l17 l18 l19 l20 : Slot} : W (pj lw) 100 488 (l0 :: l1 :: l2 :: l3 :: l4 :: l5 :: l6 :: l7 :: l8 :: l9 :: l10 :: l11 :: l12 :: l13 :: l14 :: l15 :: l16 :: l17 :: l18 :: l19 :: l20 :: .val (.long x) :: L) S k n H Q ↔ W (pj lw) 100 490 (l0 :: l1 :: l2 :: l3 :: l4 :: l5 :: l6 :: l7 :: l8 :: l9 :: l10 :: l11 :: l12 :: l13 :: l14 :: l15 :: l16 :: l17 :: l18 :: l19 :: l20 :: .val (.long x) :: L) (.long x :: S) k n H Q := W_s (rfl : (pj lw).1 100 488 = some (.lload 21, 2, 0)) rfl rfl rfl
theorem w100_490 {x y : Int64} : W (pj lw) 100 490 L (.long y :: .long x :: S) k n H Q ↔ W (pj lw) 100 491 L (.int (Jvm.Free.XT.cmpL x y) :: S) k n H Q := W_s (rfl : (pj lw).1 100 490 = some (.lcmp, 1, 0)) rfl rfl rfl
theorem w100_491 {x : Int32} : W (pj lw) 100 491 L (.int x :: S) k n H Q ↔ (if x = 0 then W (pj lw) 100 494 L S k n H Q else W (pj lw) 100 514 L S k n H Q) := W_if_ne (rfl : (pj lw).1 100 491 = some (.ifCond .ne 23, 3, 0)) rfl
theorem w100_494 {x : Int64} {l0 l1 l2 l3 l4 l5 l6 l7 l8 l9 l10 l11 l12 l13 l14 l15 l16 l17 l18 l19 l20 l21 l22 l23 l24 l25 l26 l27 l28 l29 l30 l31 l32 l33 l34 l35 l36 l37 l38 l39 : Slot} : W (pj lw) 100 494 (l0 :: l1 :: l2 :: l3 :: l4 :: l5 :: l6 :: l7 :: l8 :: l9 :: l10 :: l11 :: l12 :: l13 :: l14 :: l15 :: l16 :: l17 :: l18 :: l19 :: l20 :: l21 :: l22 :: l23 :: l24 :: l25 :: l26 :: l27 :: l28 :: l29 :: l30 :: l31 :: l32 :: l33 :: l34 :: l35 :: l36 :: l37 :: l38 :: l39 :: .val (.long x) :: L) S k n H Q ↔ W (pj lw) 100 496 (l0 :: l1 :: l2 :: l3 :: l4 :: l5 :: l6 :: l7 :: l8 :: l9 :: l10 :: l11 :: l12 :: l13 :: l14 :: l15 :: l16 :: l17 :: l18 :: l19 :: l20 :: l21 :: l22 :: l23 :: l24 :: l25 :: l26 :: l27 :: l28 :: l29 :: l30 :: l31 :: l32 :: l33 :: l34 :: l35 :: l36 :: l37 :: l38 :: l39 :: .val (.long x) :: L) (.long x :: S) k n H Q := W_s (rfl : (pj lw).1 100 494 = some (.lload 40, 2, 0)) rfl rfl rfl
theorem w100_496 {x : Int64} {l0 l1 l2 l3 l4 l5 l6 l7 l8 l9 l10 l11 l12 l13 l14 l15 l16 l17 l18 l19 l20 l21 l22 : Slot} : W (pj lw) 100 496 (l0 :: l1 :: l2 :: l3 :: l4 :: l5 :: l6 :: l7 :: l8 :: l9 :: l10 :: l11 :: l12 :: l13 :: l14 :: l15 :: l16 :: l17 :: l18 :: l19 :: l20 :: l21 :: l22 :: .val (.long x) :: L) S k n H Q ↔ W (pj lw) 100 498 (l0 :: l1 :: l2 :: l3 :: l4 :: l5 :: l6 :: l7 :: l8 :: l9 :: l10 :: l11 :: l12 :: l13 :: l14 :: l15 :: l16 :: l17 :: l18 :: l19 :: l20 :: l21 :: l22 :: .val (.long x) :: L) (.long x :: S) k n H Q := W_s (rfl : (pj lw).1 100 496 = some (.lload 23, 2, 0)) rfl rfl rfl
theorem w100_498 {x y : Int64} : W (pj lw) 100 498 L (.long y :: .long x :: S) k n H Q ↔ W (pj lw) 100 499 L (.int (Jvm.Free.XT.cmpL x y) :: S) k n H Q := W_s (rfl : (pj lw).1 100 498 = some (.lcmp, 1, 0)) rfl rfl rfl
theorem w100_499 {x : Int32} : W (pj lw) 100 499 L (.int x :: S) k n H Q ↔ (if x = 0 then W (pj lw) 100 502 L S k n H Q else W (pj lw) 100 514 L S k n H Q) := W_if_ne (rfl : (pj lw).1 100 499 = some (.ifCond .ne 15, 3, 0)) rfl
theorem w100_502 {x : Int64} {l0 l1 l2 l3 l4 l5 l6 l7 l8 l9 l10 l11 l12 l13 l14 l15 l16 l17 l18 l19 l20 l21 l22 l23 l24 l25 l26 l27 l28 l29 l30 l31 l32 l33 l34 l35 l36 l37 l38 l39 l40 l41 : Slot} : W (pj lw) 100 502 (l0 :: l1 :: l2 :: l3 :: l4 :: l5 :: l6 :: l7 :: l8 :: l9 :: l10 :: l11 :: l12 :: l13 :: l14 :: l15 :: l16 :: l17 :: l18 :: l19 :: l20 :: l21 :: l22 :: l23 :: l24 :: l25 :: l26 :: l27 :: l28 :: l29 :: l30 :: l31 :: l32 :: l33 :: l34 :: l35 :: l36 :: l37 :: l38 :: l39 :: l40 :: l41 :: .val (.long x) :: L) S k n H Q ↔ W (pj lw) 100 504 (l0 :: l1 :: l2 :: l3 :: l4 :: l5 :: l6 :: l7 :: l8 :: l9 :: l10 :: l11 :: l12 :: l13 :: l14 :: l15 :: l16 :: l17 :: l18 :: l19 :: l20 :: l21 :: l22 :: l23 :: l24 :: l25 :: l26 :: l27 :: l28 :: l29 :: l30 :: l31 :: l32 :: l33 :: l34 :: l35 :: l36 :: l37 :: l38 :: l39 :: l40 :: l41 :: .val (.long x) :: L) (.long x :: S) k n H Q := W_s (rfl : (pj lw).1 100 502 = some (.lload 42, 2, 0)) rfl rfl rfl
theorem w100_504 {x : Int64} {l0 l1 l2 l3 l4 l5 l6 l7 l8 l9 l10 l11 l12 l13 l14 l15 l16 l17 l18 l19 l20 l21 l22 l23 l24 : Slot} : W (pj lw) 100 504 (l0 :: l1 :: l2 :: l3 :: l4 :: l5 :: l6 :: l7 :: l8 :: l9 :: l10 :: l11 :: l12 :: l13 :: l14 :: l15 :: l16 :: l17 :: l18 :: l19 :: l20 :: l21 :: l22 :: l23 :: l24 :: .val (.long x) :: L) S k n H Q ↔ W (pj lw) 100 506 (l0 :: l1 :: l2 :: l3 :: l4 :: l5 :: l6 :: l7 :: l8 :: l9 :: l10 :: l11 :: l12 :: l13 :: l14 :: l15 :: l16 :: l17 :: l18 :: l19 :: l20 :: l21 :: l22 :: l23 :: l24 :: .val (.long x) :: L) (.long x :: S) k n H Q := W_s (rfl : (pj lw).1 100 504 = some (.lload 25, 2, 0)) rfl rfl rfl
theorem w100_506 {x y : Int64} : W (pj lw) 100 506 L (.long y :: .long x :: S) k n H Q ↔ W (pj lw) 100 507 L (.int (Jvm.Free.XT.cmpL x y) :: S) k n H Q := W_s (rfl : (pj lw).1 100 506 = some (.lcmp, 1, 0)) rfl rfl rfl
theorem w100_507 {x : Int32} : W (pj lw) 100 507 L (.int x :: S) k n H Q ↔ (if x = 0 then W (pj lw) 100 510 L S k n H Q else W (pj lw) 100 514 L S k n H Q) := W_if_ne (rfl : (pj lw).1 100 507 = some (.ifCond .ne 7, 3, 0)) rfl
theorem w100_510 : W (pj lw) 100 510 L S k n H Q ↔ W (pj lw) 100 511 L (.int 1 :: S) k n H Q := W_s (rfl : (pj lw).1 100 510 = some (.iconst 1, 1, 0)) rfl rfl rfl
theorem w100_511 : W (pj lw) 100 511 L S k n H Q ↔ W (pj lw) 100 515 L S k n H Q := W_goto (rfl : (pj lw).1 100 511 = some (.goto 4, 3, 0)) rfl
theorem w100_514 : W (pj lw) 100 514 L S k n H Q ↔ W (pj lw) 100 515 L (.int 0 :: S) k n H Q := W_s (rfl : (pj lw).1 100 514 = some (.iconst 0, 1, 0)) rfl rfl rfl
theorem w100_515 {x : Int32} : W (pj lw) 100 515 L (.int x :: S) k n H Q ↔ ((x = 0 ∨ x = 1) ∧ Q (some (.int x)) H) := W_rz (rfl : (pj lw).1 100 515 = some (.ireturn, 1, 0)) rfl
theorem c102 {x0 : Int32} {x1 : Int32} : Cl (pj lw) 102 [.int x0, .int x1] H Q ↔ W (pj lw) 102 0 [.val (.int x0), .val (.int x1), .unset, .unset] [] 0 0 H Q := cl_unf rfl
theorem w102_0 : W (pj lw) 102 0 L S k n H Q ↔ W (pj lw) 102 1 L (.int 0 :: S) k n H Q := W_s (rfl : (pj lw).1 102 0 = some (.iconst 0, 1, 0)) rfl rfl rfl
theorem w102_1 {x : Int32} {l0 l1 : Slot} : W (pj lw) 102 1 (l0 :: l1 :: .unset :: L) (.int x :: S) k n H Q ↔ W (pj lw) 102 2 (l0 :: l1 :: .val (.int x) :: L) S k n H Q := W_istn (rfl : (pj lw).1 102 1 = some (.istore_n 2, 1, 0)) rfl rfl
theorem w102_2 {x : Int32} {l0 l1 : Slot} : W (pj lw) 102 2 (l0 :: l1 :: .val (.int x) :: L) S k n H Q ↔ W (pj lw) 102 3 (l0 :: l1 :: .val (.int x) :: L) (.int x :: S) k n H Q := W_s (rfl : (pj lw).1 102 2 = some (.iload_n 2, 1, 0)) rfl rfl rfl
theorem w102_3 : W (pj lw) 102 3 L S k n H Q ↔ W (pj lw) 102 5 L (.int 8 :: S) k n H Q := W_s (rfl : (pj lw).1 102 3 = some (.bipush 8, 2, 0)) rfl rfl rfl
theorem w102_5 {x y : Int32} : W (pj lw) 102 5 L (.int y :: .int x :: S) k n H Q ↔ (if x < y then W (pj lw) 102 8 L S k n H Q else W (pj lw) 102 26 L S k n H Q) := W_icmp_ge (rfl : (pj lw).1 102 5 = some (.if_icmp .ge 21, 3, 0)) rfl
theorem w102_8 {x : Int32} {l0 : Slot} : W (pj lw) 102 8 (l0 :: .val (.int x) :: L) S k n H Q ↔ W (pj lw) 102 9 (l0 :: .val (.int x) :: L) (.int x :: S) k n H Q := W_s (rfl : (pj lw).1 102 8 = some (.iload_n 1, 1, 0)) rfl rfl rfl
theorem w102_9 {x : Int32} : W (pj lw) 102 9 L (.int x :: S) k n H Q ↔ (if x = 0 then W (pj lw) 102 20 L S k n H Q else W (pj lw) 102 12 L S k n H Q) := W_if_eq (rfl : (pj lw).1 102 9 = some (.ifCond .eq 11, 3, 0)) rfl
theorem w102_12 {x : Int32} : W (pj lw) 102 12 (.val (.int x) :: L) S k n H Q ↔ W (pj lw) 102 13 (.val (.int x) :: L) (.int x :: S) k n H Q := W_s (rfl : (pj lw).1 102 12 = some (.iload_n 0, 1, 0)) rfl rfl rfl
theorem w102_13 {x : Int32} {l0 : Slot} : W (pj lw) 102 13 (l0 :: .val (.int x) :: L) S k n H Q ↔ W (pj lw) 102 14 (l0 :: .val (.int x) :: L) (.int x :: S) k n H Q := W_s (rfl : (pj lw).1 102 13 = some (.iload_n 1, 1, 0)) rfl rfl rfl
theorem w102_14 {x y : Int32} : W (pj lw) 102 14 L (.int y :: .int x :: S) k n H Q ↔ (¬ y = 0 ∧ W (pj lw) 102 15 L (.int (x % y) :: S) k n H Q) := W_irem (rfl : (pj lw).1 102 14 = some (.irem, 1, 0))
theorem w102_15i {y : Int32} {x : Int32} {l0 l1 l2 : Slot} : W (pj lw) 102 15 (l0 :: l1 :: l2 :: .val (.int y) :: L) (.int x :: S) k n H Q ↔ W (pj lw) 102 16 (l0 :: l1 :: l2 :: .val (.int x) :: L) S k n H Q := W_istn (rfl : (pj lw).1 102 15 = some (.istore_n 3, 1, 0)) rfl rfl
theorem w102_15 {x : Int32} {l0 l1 l2 : Slot} : W (pj lw) 102 15 (l0 :: l1 :: l2 :: .unset :: L) (.int x :: S) k n H Q ↔ W (pj lw) 102 16 (l0 :: l1 :: l2 :: .val (.int x) :: L) S k n H Q := W_istn (rfl : (pj lw).1 102 15 = some (.istore_n 3, 1, 0)) rfl rfl
theorem w102_16 {x : Int32} {l0 : Slot} : W (pj lw) 102 16 (l0 :: .val (.int x) :: L) S k n H Q ↔ W (pj lw) 102 17 (l0 :: .val (.int x) :: L) (.int x :: S) k n H Q := W_s (rfl : (pj lw).1 102 16 = some (.iload_n 1, 1, 0)) rfl rfl rfl
theorem w102_17i {y : Int32} {x : Int32} : W (pj lw) 102 17 (.val (.int y) :: L) (.int x :: S) k n H Q ↔ W (pj lw) 102 18 (.val (.int x) :: L) S k n H Q := W_istn (rfl : (pj lw).1 102 17 = some (.istore_n 0, 1, 0)) rfl rfl
theorem w102_17 {x : Int32} : W (pj lw) 102 17 (.unset :: L) (.int x :: S) k n H Q ↔ W (pj lw) 102 18 (.val (.int x) :: L) S k n H Q := W_istn (rfl : (pj lw).1 102 17 = some (.istore_n 0, 1, 0)) rfl rfl
theorem w102_18 {x : Int32} {l0 l1 l2 : Slot} : W (pj lw) 102 18 (l0 :: l1 :: l2 :: .val (.int x) :: L) S k n H Q ↔ W (pj lw) 102 19 (l0 :: l1 :: l2 :: .val (.int x) :: L) (.int x :: S) k n H Q := W_s (rfl : (pj lw).1 102 18 = some (.iload_n 3, 1, 0)) rfl rfl rfl
theorem w102_19i {y : Int32} {x : Int32} {l0 : Slot} : W (pj lw) 102 19 (l0 :: .val (.int y) :: L) (.int x :: S) k n H Q ↔ W (pj lw) 102 20 (l0 :: .val (.int x) :: L) S k n H Q := W_istn (rfl : (pj lw).1 102 19 = some (.istore_n 1, 1, 0)) rfl rfl
theorem w102_19 {x : Int32} {l0 : Slot} : W (pj lw) 102 19 (l0 :: .unset :: L) (.int x :: S) k n H Q ↔ W (pj lw) 102 20 (l0 :: .val (.int x) :: L) S k n H Q := W_istn (rfl : (pj lw).1 102 19 = some (.istore_n 1, 1, 0)) rfl rfl
theorem w102_20 {x : Int32} {l0 l1 : Slot} : W (pj lw) 102 20 (l0 :: l1 :: .val (.int x) :: L) S k n H Q ↔ W (pj lw) 102 23 (l0 :: l1 :: .val (.int (x + 1)) :: L) S k n H Q := W_s (rfl : (pj lw).1 102 20 = some (.iinc 2 1, 3, 0)) rfl rfl rfl
theorem w102_23 : W (pj lw) 102 23 L S k n H Q ↔ W (pj lw) 102 2 L S k n H Q := W_goto (rfl : (pj lw).1 102 23 = some (.goto (-21), 3, 0)) rfl
theorem w102_26 {x : Int32} : W (pj lw) 102 26 (.val (.int x) :: L) S k n H Q ↔ W (pj lw) 102 27 (.val (.int x) :: L) (.int x :: S) k n H Q := W_s (rfl : (pj lw).1 102 26 = some (.iload_n 0, 1, 0)) rfl rfl rfl
theorem w102_27 {x : Int32} : W (pj lw) 102 27 L (.int x :: S) k n H Q ↔ Q (some (.int x)) H := W_r (rfl : (pj lw).1 102 27 = some (.ireturn, 1, 0)) rfl
end LPc
section X5
variable {H : AH} {p : Nat} {s s' : St} {Q : Option Value → AH → Prop} {k n : Nat} {x y : Int32}
def gF : Nat → Nat → Nat → Nat
  | 0, a, _ => a
  | m + 1, a, b => if b = 0 then gF m a b else gF m b (a % b)
theorem gF_ok : ∀ a b : Fin 10, gF 8 a.val b.val = Nat.gcd a.val b.val := by decide +kernel
theorem rem32 {a b : Nat} (ha : a < 1000) (hb : b < 1000) : Int32.ofNat a % Int32.ofNat b = Int32.ofNat (a % b) := by
  have : a % b ≤ a := Nat.mod_le _ _
  rw [eq32, Int32.toInt_mod, Int32.toInt_ofNat_of_lt (by omega), Int32.toInt_ofNat_of_lt (by omega), Int32.toInt_ofNat_of_lt (by omega)]; exact (Int.tmod_eq_emod_of_nonneg (by omega)).trans rfl
theorem div32 {a b : Nat} (ha : a < 1000) (hb : b < 1000) : Int32.ofNat a / Int32.ofNat b = Int32.ofNat (a / b) := by
  have : a / b ≤ a := Nat.div_le_self _ _
  rw [eq32, Int32.toInt_div, Int32.toInt_ofNat_of_lt (by omega), Int32.toInt_ofNat_of_lt (by omega), Int32.toInt_ofNat_of_lt (by omega)]
  have e : (a : Int) / (b : Int) = ((a / b : Nat) : Int) := (Int.natCast_ediv a b).symm
  rw [Int.tdiv_eq_ediv_of_nonneg (by omega), e]
  generalize a / b = q at *
  exact Int.bmod_eq_of_le (by omega) (by omega)
theorem ne32 {a : Nat} (h : a < 1000) (h0 : a ≠ 0) : ¬ Int32.ofNat a = 0 := by rw [eq32, Int32.toInt_ofNat_of_lt (by omega)]; show ¬ (a : Int) = 0; omega
theorem l102 (m : Nat) : ∀ (a b : Nat) (t : Int32), a < 1000 → b < 1000 → t.toInt = 8 - m → 0 ≤ t.toInt → Q (some (.int (Int32.ofNat (gF m a b)))) H →
    W (pj lw) 102 2 [.val (.int (Int32.ofNat a)), .val (.int (Int32.ofNat b)), .val (.int t), .unset] [] k n H Q := by
  induction m with
  | zero =>
    intro a b t ha hb ht h0 hq
    have h1 : ¬ t < 8 := by rw [lt32]; simp only [Int32.reduceToInt]; omega
    rw [w102_2]; simp +decide only [w102_0, w102_1, w102_3, w102_5, w102_8, w102_9, w102_12, w102_13, w102_14, w102_15i, w102_15, w102_16, w102_17i, w102_17, w102_18, w102_19i, w102_19, w102_20, w102_23, w102_26, w102_27, zr_z0, zr_uI, zr_uJ, isO_put, isOw_put, put_fst, okv_int, okv_long, okv_ref, okv_bool, okv_byte, cat1_unset, cat1_int, cat1_ref, cs_nil, cs_int, cs_ref, cs_long, cmpL_lt, cmpL_gt, cmpL_eq, sI_uI, sI_uJ, sI_uA, sI_uB, sJ_uI, sJ_uJ, sJ_uA, sJ_uB, sA_uI, sA_uJ, sA_uA, sA_uB, sB_uI, sB_uJ, sB_uA, sB_uB, sI_fA, sJ_fA, sA_fA, sB_fA, sI_z0, sJ_z0, sA_z0, sB_z0, Option.toList_some, Option.toList_none, List.cons_append, List.nil_append, true_and, and_true, false_and, and_false, or_false, false_or, or_true, true_or, not_true_eq_false, not_false_eq_true, ↓reduceIte, Nat.reduceAdd, Nat.reduceLeDiff, Nat.reduceEqDiff, Nat.reduceSub, Int32.reduceAdd, Int32.reduceSub, Int32.reduceMul, Int32.reduceToNatClampNeg, Int64.reduceAdd, Int64.reduceSub, Int64.reduceMul, Int64.reduceLT, Int32.reduceLT, Int32.reduceToInt, Nat.add_zero, Nat.zero_add, Nat.le_refl, eq_self, implies_true, ne_eq, h1]; exact hq
  | succ m ih =>
    intro a b t ha hb ht h0 hq
    have h1 : t < 8 := by rw [lt32]; simp only [Int32.reduceToInt]; omega
    have h2 : (t + 1).toInt = t.toInt + 1 := ia (by simp only [Int32.reduceToInt]; omega) (by simp only [Int32.reduceToInt]; omega)
    unfold gF at hq
    rw [w102_2]
    by_cases q : b = 0
    · subst q
      rw [if_pos rfl] at hq
      have z : Int32.ofNat 0 = 0 := rfl
      have key := ih a 0 (t + 1) ha (by omega) (by omega) (by omega) hq
      rw [z] at key ⊢
      simp +decide only [w102_0, w102_1, w102_3, w102_5, w102_8, w102_9, w102_12, w102_13, w102_14, w102_15i, w102_15, w102_16, w102_17i, w102_17, w102_18, w102_19i, w102_19, w102_20, w102_23, w102_26, w102_27, zr_z0, zr_uI, zr_uJ, isO_put, isOw_put, put_fst, okv_int, okv_long, okv_ref, okv_bool, okv_byte, cat1_unset, cat1_int, cat1_ref, cs_nil, cs_int, cs_ref, cs_long, cmpL_lt, cmpL_gt, cmpL_eq, sI_uI, sI_uJ, sI_uA, sI_uB, sJ_uI, sJ_uJ, sJ_uA, sJ_uB, sA_uI, sA_uJ, sA_uA, sA_uB, sB_uI, sB_uJ, sB_uA, sB_uB, sI_fA, sJ_fA, sA_fA, sB_fA, sI_z0, sJ_z0, sA_z0, sB_z0, Option.toList_some, Option.toList_none, List.cons_append, List.nil_append, true_and, and_true, false_and, and_false, or_false, false_or, or_true, true_or, not_true_eq_false, not_false_eq_true, ↓reduceIte, Nat.reduceAdd, Nat.reduceLeDiff, Nat.reduceEqDiff, Nat.reduceSub, Int32.reduceAdd, Int32.reduceSub, Int32.reduceMul, Int32.reduceToNatClampNeg, Int64.reduceAdd, Int64.reduceSub, Int64.reduceMul, Int64.reduceLT, Int32.reduceLT, Int32.reduceToInt, Nat.add_zero, Nat.zero_add, Nat.le_refl, eq_self, implies_true, ne_eq, h1]; exact key
    · rw [if_neg q] at hq
      have n0 := ne32 hb q
      have lt := Nat.mod_lt a (Nat.pos_of_ne_zero q)
      have key := ih b (a % b) (t + 1) hb (by omega) (by omega) (by omega) hq
      simp +decide only [w102_3, w102_5, w102_8, w102_9, w102_12, w102_13, w102_14, w102_15i, w102_15, w102_16, w102_17i, w102_17, w102_18, w102_19i, w102_19, zr_z0, zr_uI, zr_uJ, isO_put, isOw_put, put_fst, okv_int, okv_long, okv_ref, okv_bool, okv_byte, cat1_unset, cat1_int, cat1_ref, cs_nil, cs_int, cs_ref, cs_long, cmpL_lt, cmpL_gt, cmpL_eq, sI_uI, sI_uJ, sI_uA, sI_uB, sJ_uI, sJ_uJ, sJ_uA, sJ_uB, sA_uI, sA_uJ, sA_uA, sA_uB, sB_uI, sB_uJ, sB_uA, sB_uB, sI_fA, sJ_fA, sA_fA, sB_fA, sI_z0, sJ_z0, sA_z0, sB_z0, Option.toList_some, Option.toList_none, List.cons_append, List.nil_append, true_and, and_true, false_and, and_false, or_false, false_or, or_true, true_or, not_true_eq_false, not_false_eq_true, ↓reduceIte, Nat.reduceAdd, Nat.reduceLeDiff, Nat.reduceEqDiff, Nat.reduceSub, Int32.reduceAdd, Int32.reduceSub, Int32.reduceMul, Int32.reduceToNatClampNeg, Int64.reduceAdd, Int64.reduceSub, Int64.reduceMul, Int64.reduceLT, Int32.reduceLT, Int32.reduceToInt, Nat.add_zero, Nat.zero_add, Nat.le_refl, eq_self, implies_true, ne_eq, h1, n0, rem32 ha hb]
      refine W_fa 3 rfl ?_
      show W (pj lw) 102 20 [.val (.int (Int32.ofNat b)), .val (.int (Int32.ofNat (a % b))), .val (.int t), .unset] [] k n H Q
      simp +decide only [w102_20, w102_23, zr_z0, zr_uI, zr_uJ, isO_put, isOw_put, put_fst, okv_int, okv_long, okv_ref, okv_bool, okv_byte, cat1_unset, cat1_int, cat1_ref, cs_nil, cs_int, cs_ref, cs_long, cmpL_lt, cmpL_gt, cmpL_eq, sI_uI, sI_uJ, sI_uA, sI_uB, sJ_uI, sJ_uJ, sJ_uA, sJ_uB, sA_uI, sA_uJ, sA_uA, sA_uB, sB_uI, sB_uJ, sB_uA, sB_uB, sI_fA, sJ_fA, sA_fA, sB_fA, sI_z0, sJ_z0, sA_z0, sB_z0, Option.toList_some, Option.toList_none, List.cons_append, List.nil_append, true_and, and_true, false_and, and_false, or_false, false_or, or_true, true_or, not_true_eq_false, not_false_eq_true, ↓reduceIte, Nat.reduceAdd, Nat.reduceLeDiff, Nat.reduceEqDiff, Nat.reduceSub, Int32.reduceAdd, Int32.reduceSub, Int32.reduceMul, Int32.reduceToNatClampNeg, Int64.reduceAdd, Int64.reduceSub, Int64.reduceMul, Int64.reduceLT, Int32.reduceLT, Int32.reduceToInt, Nat.add_zero, Nat.zero_add, Nat.le_refl, eq_self, implies_true, ne_eq]; exact key
theorem s102 {a b : Nat} (ha : a ≤ 9) (hb : b ≤ 9) (hq : Q (some (.int (Int32.ofNat (Nat.gcd a b)))) H) : Cl (pj lw) 102 [.int (Int32.ofNat a), .int (Int32.ofNat b)] H Q := by
  rw [c102]; simp +decide only [w102_0, w102_1, zr_z0, zr_uI, zr_uJ, isO_put, isOw_put, put_fst, okv_int, okv_long, okv_ref, okv_bool, okv_byte, cat1_unset, cat1_int, cat1_ref, cs_nil, cs_int, cs_ref, cs_long, cmpL_lt, cmpL_gt, cmpL_eq, sI_uI, sI_uJ, sI_uA, sI_uB, sJ_uI, sJ_uJ, sJ_uA, sJ_uB, sA_uI, sA_uJ, sA_uA, sA_uB, sB_uI, sB_uJ, sB_uA, sB_uB, sI_fA, sJ_fA, sA_fA, sB_fA, sI_z0, sJ_z0, sA_z0, sB_z0, Option.toList_some, Option.toList_none, List.cons_append, List.nil_append, true_and, and_true, false_and, and_false, or_false, false_or, or_true, true_or, not_true_eq_false, not_false_eq_true, ↓reduceIte, Nat.reduceAdd, Nat.reduceLeDiff, Nat.reduceEqDiff, Nat.reduceSub, Int32.reduceAdd, Int32.reduceSub, Int32.reduceMul, Int32.reduceToNatClampNeg, Int64.reduceAdd, Int64.reduceSub, Int64.reduceMul, Int64.reduceLT, Int32.reduceLT, Int32.reduceToInt, Nat.add_zero, Nat.zero_add, Nat.le_refl, eq_self, implies_true, ne_eq]
  refine l102 8 a b 0 (by omega) (by omega) (by decide) (by decide) ?_
  have := gF_ok ⟨a, by omega⟩ ⟨b, by omega⟩
  simp only at this
  rw [this]; exact hq
def c0f (u v w z : Nat) : Nat := (w / Nat.gcd u w) * (z / Nat.gcd v z) / Nat.gcd (w / Nat.gcd u w) (z / Nat.gcd v z)
theorem num : ∀ a b c d : Fin 9, ((c.val + 1) * (d.val + 1) / Nat.gcd (Nat.gcd ((c.val + 1) * (d.val + 1)) ((a.val + 1) * (d.val + 1))) ((b.val + 1) * (c.val + 1)) = c0f (a.val + 1) (b.val + 1) (c.val + 1) (d.val + 1) ∧
    (a.val + 1) * (d.val + 1) / Nat.gcd (Nat.gcd ((c.val + 1) * (d.val + 1)) ((a.val + 1) * (d.val + 1))) ((b.val + 1) * (c.val + 1)) = (a.val + 1) * c0f (a.val + 1) (b.val + 1) (c.val + 1) (d.val + 1) / (c.val + 1) ∧
    (b.val + 1) * (c.val + 1) / Nat.gcd (Nat.gcd ((c.val + 1) * (d.val + 1)) ((a.val + 1) * (d.val + 1))) ((b.val + 1) * (c.val + 1)) = (b.val + 1) * c0f (a.val + 1) (b.val + 1) (c.val + 1) (d.val + 1) / (d.val + 1)) ∧ c0f (a.val + 1) (b.val + 1) (c.val + 1) (d.val + 1) ≤ 81 := by decide +kernel
theorem md_rg {x m : Int32} (hm : 0 < m.toInt ∧ m.toInt ≤ 100) : 0 ≤ ((x % m + m) % m).toInt ∧ ((x % m + m) % m).toInt < m.toInt := by
  have r1 : (x % m).toInt = x.toInt.tmod m.toInt := Int32.toInt_mod ..
  have h1 : x.toInt.tmod m.toInt < m.toInt := Int.tmod_lt_of_pos _ hm.1
  have h2 : -m.toInt < x.toInt.tmod m.toInt := by have := Int.lt_tmod_of_pos x.toInt hm.1; omega
  have e : (x % m + m).toInt = (x % m).toInt + m.toInt := ia (by omega) (by omega)
  have r2 : ((x % m + m) % m).toInt = (x % m + m).toInt.tmod m.toInt := Int32.toInt_mod ..
  have h3 : (x % m + m).toInt.tmod m.toInt < m.toInt := Int.tmod_lt_of_pos _ hm.1
  have h4 : 0 ≤ (x % m + m).toInt.tmod m.toInt := Int.tmod_nonneg _ (by omega)
  omega
theorem rgc_t {lo hi c : Int32} (h1 : (c < lo) = False) (h2 : (hi < c) = False) : rgc lo hi c = true := decide_eq_true ⟨of_eq_false h1, of_eq_false h2⟩
theorem ac {x y : Int32} : x + y - x = y := by rw [Int32.add_comm, Int32.add_sub_cancel]
theorem dgt {q : Int32} (h : 0 ≤ q.toInt ∧ q.toInt < 9) : ∃ u : Nat, (0 < u ∧ u ≤ 9) ∧ q + 1 = Int32.ofNat u ∧ (48 + (q + 1) - 48 = Int32.ofNat u) ∧ ((48 + (q + 1) < 48) = False) ∧ ((57 < 48 + (q + 1)) = False) ∧ ((48 + (q + 1) = 48) = False) ∧ ((48 + (q + 1) < 97) = True) := by
  have e1 : (q + 1).toInt = q.toInt + 1 := ia (by simp only [Int32.reduceToInt]; omega) (by simp only [Int32.reduceToInt]; omega)
  have e2 : (48 + (q + 1)).toInt = 48 + (q + 1).toInt := ia (by simp only [Int32.reduceToInt]; omega) (by simp only [Int32.reduceToInt]; omega)
  have e3 : q + 1 = Int32.ofNat (q.toInt.toNat + 1) := by rw [eq32, e1, Int32.toInt_ofNat_of_lt (by omega)]; omega
  refine ⟨q.toInt.toNat + 1, by omega, e3, by rw [ac]; exact e3, eq_false ?_, eq_false ?_, eq_false ?_, eq_true ?_⟩
  · rw [lt32, e2]; simp only [Int32.reduceToInt]; omega
  · rw [lt32, e2]; simp only [Int32.reduceToInt]; omega
  · rw [eq32, e2]; simp only [Int32.reduceToInt]; omega
  · rw [lt32, e2]; simp only [Int32.reduceToInt]; omega
theorem ltr {q : Int32} (h : 0 ≤ q.toInt ∧ q.toInt < 26) : (65 + q).toInt = 65 + q.toInt ∧ ((65 + q < 65) = False) ∧ ((90 < 65 + q) = False) ∧ ((65 + q < 48) = False) ∧ ((57 < 65 + q) = True) := by
  have e2 : (65 + q).toInt = 65 + q.toInt := ia (by simp only [Int32.reduceToInt]; omega) (by simp only [Int32.reduceToInt]; omega)
  refine ⟨e2, eq_false ?_, eq_false ?_, eq_false ?_, eq_true ?_⟩
  all_goals rw [lt32, e2]; simp only [Int32.reduceToInt]; omega
set_option maxRecDepth 100000 in
set_option maxHeartbeats 4000000 in
theorem law_ok (i0 i1 i2 i3 i4 i5 : Int32) (N : Nat) : Cl (pj lw) 100 [.int i0, .int i1, .int i2, .int i3, .int i4, .int i5] (H0 N) (fun v _ => v = some (.int 1)) := by
  rw [c100]
  simp +decide only [w100_0, w100_1, w100_3, w100_4, w100_6, w100_7, w100_9, w100_10, w100_12, w100_14, w100_15, w100_16, w100_17, w100_19, w100_20, w100_22, w100_23, w100_25, w100_26, w100_27, w100_29, w100_30, w100_32, w100_33, w100_35, w100_36, w100_38, w100_39, w100_41, w100_42, w100_43, w100_44, w100_46, w100_47, w100_49, w100_50, w100_52, w100_53, w100_55, w100_56, w100_57, w100_58, w100_60, w100_62, w100_64, w100_65, w100_67, w100_68, w100_70, w100_71, w100_72, w100_73, w100_75, w100_77, w100_79, w100_80, w100_82, w100_83, w100_85, w100_86, w100_87, w100_88, w100_90, w100_92, w100_94, w100_95, w100_97, w100_99, w100_101, w100_102, zr_z0, zr_uI, zr_uJ, isO_put, isOw_put, put_fst, okv_int, okv_long, okv_ref, okv_bool, okv_byte, cat1_unset, cat1_int, cat1_ref, cs_nil, cs_int, cs_ref, cs_long, cmpL_lt, cmpL_gt, cmpL_eq, sI_uI, sI_uJ, sI_uA, sI_uB, sJ_uI, sJ_uJ, sJ_uA, sJ_uB, sA_uI, sA_uJ, sA_uA, sA_uB, sB_uI, sB_uJ, sB_uA, sB_uB, sI_fA, sJ_fA, sA_fA, sB_fA, sI_z0, sJ_z0, sA_z0, sB_z0, Option.toList_some, Option.toList_none, List.cons_append, List.nil_append, true_and, and_true, false_and, and_false, or_false, false_or, or_true, true_or, not_true_eq_false, not_false_eq_true, ↓reduceIte, Nat.reduceAdd, Nat.reduceLeDiff, Nat.reduceEqDiff, Nat.reduceSub, Int32.reduceAdd, Int32.reduceSub, Int32.reduceMul, Int32.reduceToNatClampNeg, Int64.reduceAdd, Int64.reduceSub, Int64.reduceMul, Int64.reduceLT, Int32.reduceLT, Int32.reduceToInt, Nat.add_zero, Nat.zero_add, Nat.le_refl, eq_self, implies_true, ne_eq]
  have rx := md_rg (x := i0) (m := 26) (by decide)
  have rm := md_rg (x := i1) (m := 25) (by decide)
  have rp := md_rg (x := i2) (m := 9) (by decide)
  have rq := md_rg (x := i3) (m := 9) (by decide)
  have rr := md_rg (x := i4) (m := 9) (by decide)
  have rs := md_rg (x := i5) (m := 9) (by decide)
  simp only [Int32.reduceToInt] at rx rm rp rq rr rs
  generalize (i0 % 26 + 26) % 26 = x at *
  generalize (i1 % 25 + 25) % 25 = m at *
  generalize (i2 % 9 + 9) % 9 = p at *
  generalize (i3 % 9 + 9) % 9 = q at *
  generalize (i4 % 9 + 9) % 9 = r at *
  generalize (i5 % 9 + 9) % 9 = t at *
  have x1 : (x + 1).toInt = x.toInt + 1 := ia (by simp only [Int32.reduceToInt]; omega) (by simp only [Int32.reduceToInt]; omega)
  have x2 : (x + 1 + m).toInt = x.toInt + 1 + m.toInt := by rw [ia (by omega) (by omega), x1]
  have ry : ((x + 1 + m) % 26).toInt = (x.toInt + 1 + m.toInt) % 26 := by
    have : ((x + 1 + m) % 26).toInt = (x + 1 + m).toInt.tmod (26 : Int32).toInt := Int32.toInt_mod ..
    rw [this, x2, show (26 : Int32).toInt = 26 from rfl, Int.tmod_eq_emod_of_nonneg (by omega)]
  generalize (x + 1 + m) % 26 = y at *
  have hxy : x.toInt ≠ y.toInt := by omega
  have ry' : 0 ≤ y.toInt ∧ y.toInt < 26 := by omega
  obtain ⟨lx, ux, ux2, xd, xd2⟩ := ltr rx
  obtain ⟨ly, uy, uy2, yd, yd2⟩ := ltr ry'
  have mx : (x * 27).toInt = x.toInt * 27 := im (by simp only [Int32.reduceToInt]; omega) (by simp only [Int32.reduceToInt]; omega)
  have my : (y * 27).toInt = y.toInt * 27 := im (by simp only [Int32.reduceToInt]; omega) (by simp only [Int32.reduceToInt]; omega)
  have hne : ((65 + x - 65) * 27 = (65 + y - 65) * 27) = False := eq_false (by rw [ac, ac, eq32]; omega)
  have hne' : ((65 + y - 65) * 27 = (65 + x - 65) * 27) = False := eq_false (by rw [ac, ac, eq32]; omega)
  obtain ⟨u, u0, pu, eu, p1, p2, p3, p4⟩ := dgt rp
  obtain ⟨v, v0, qv, ev, q1, q2, q3, q4⟩ := dgt rq
  obtain ⟨w, w0, rw', ew, r1, r2, r3, r4⟩ := dgt rr
  obtain ⟨z, z0, tz, ez, z1, z2, z3, z4⟩ := dgt rs
  have fx := fun H p s Q => t23 (lw := lw) (H := H) (p := p) (s := s) (Q := Q) (c := 65 + x) (Or.inl (rgc_t ux ux2))
  have fy := fun H p s Q => t23 (lw := lw) (H := H) (p := p) (s := s) (Q := Q) (c := 65 + y) (Or.inl (rgc_t uy uy2))
  have fp := fun H p' s Q => t23 (lw := lw) (H := H) (p := p') (s := s) (Q := Q) (c := 48 + (p + 1)) (Or.inr (Or.inl (rgc_t p1 p2)))
  have fq := fun H p s Q => t23 (lw := lw) (H := H) (p := p) (s := s) (Q := Q) (c := 48 + (q + 1)) (Or.inr (Or.inl (rgc_t q1 q2)))
  have fr := fun H p s Q => t23 (lw := lw) (H := H) (p := p) (s := s) (Q := Q) (c := 48 + (r + 1)) (Or.inr (Or.inl (rgc_t r1 r2)))
  have ft := fun H p s Q => t23 (lw := lw) (H := H) (p := p) (s := s) (Q := Q) (c := 48 + (t + 1)) (Or.inr (Or.inl (rgc_t z1 z2)))
  have f43 := fun H p s Q => t23 (lw := lw) (H := H) (p := p) (s := s) (Q := Q) (c := 43) (Or.inr (Or.inr (Or.inl rfl)))
  have f61 := fun H p s Q => t23 (lw := lw) (H := H) (p := p) (s := s) (Q := Q) (c := 61) (Or.inr (Or.inr (Or.inr rfl)))
  have e32 : cl 2 6 3 = 3 := by decide
  have e12 : cl 1 8 2 = 2 := by decide
  simp +decide only [w100_104, w100_107, w100_108, w100_109, w100_110, w100_113, w100_115, w100_117, w100_119, w100_122, w100_123, w100_125, w100_127, w100_129, w100_130, w100_133, w100_134, w100_136, w100_138, w100_141, w100_142, w100_144, w100_146, w100_148, w100_149, w100_152, w100_153, w100_155, w100_157, w100_160, w100_161, w100_163, w100_165, w100_168, w100_169, w100_171, w100_173, w100_175, w100_176, w100_179, w100_180, w100_182, w100_184, w100_187, w100_188, w100_190, w100_192, w100_195, w100_196, w100_198, w100_200, w100_202, w100_203, w100_206, w100_207, w100_209, zr_z0, zr_uI, zr_uJ, isO_put, isOw_put, put_fst, okv_int, okv_long, okv_ref, okv_bool, okv_byte, cat1_unset, cat1_int, cat1_ref, cs_nil, cs_int, cs_ref, cs_long, cmpL_lt, cmpL_gt, cmpL_eq, sI_uI, sI_uJ, sI_uA, sI_uB, sJ_uI, sJ_uJ, sJ_uA, sJ_uB, sA_uI, sA_uJ, sA_uA, sA_uB, sB_uI, sB_uJ, sB_uA, sB_uB, sI_fA, sJ_fA, sA_fA, sB_fA, sI_z0, sJ_z0, sA_z0, sB_z0, Option.toList_some, Option.toList_none, List.cons_append, List.nil_append, true_and, and_true, false_and, and_false, or_false, false_or, or_true, true_or, not_true_eq_false, not_false_eq_true, ↓reduceIte, Nat.reduceAdd, Nat.reduceLeDiff, Nat.reduceEqDiff, Nat.reduceSub, Int32.reduceAdd, Int32.reduceSub, Int32.reduceMul, Int32.reduceToNatClampNeg, Int64.reduceAdd, Int64.reduceSub, Int64.reduceMul, Int64.reduceLT, Int32.reduceLT, Int32.reduceToInt, Nat.add_zero, Nat.zero_add, Nat.le_refl, eq_self, implies_true, ne_eq, g0, s0, g1, s1, g2, g3, s3, g4, g5, g6, s6, g7, s7, g8, s8, g9, s9, g10, s10, g11, s11, g12, s12, g13, s13, g14, g15, g16, g17, g18, g19, g20, g21, g22, g23, g24, g25, g26, s26, g27, s27, ai1, aw1, ae1, as1, ai2, aw2, ae2, as2, ai3, aw3, ae3, as3, ai4, aw4, ae4, as4, ai5, aw5, ae5, as5, ai6, aw6, ae6, as6, ai7, aw7, ae7, as7, ai8, aw8, ae8, as8, ai9, aw9, ae9, as9, ai10, aw10, ae10, as10, ai11, aw11, ae11, as11, ai12, aw12, ae12, as12, ai13, aw13, ae13, as13, ai14, aw14, ae14, as14, ai15, aw15, ae15, as15, mkO_ob, t1, H0, ini0, e32, e12, c2, w2_0, w2_1, w2_4, w2_7, w2_8, w2_11, w2_13, w2_16, w2_17, w2_18, w2_19, w2_20, w2_23, w2_26, w2_27, w2_28, w2_29, w2_32, w2_33, w2_36, w2_37, w2_38, w2_39, w2_40, w2_43, w2_44, w2_45, w2_48, w2_49, fx, fy, fp, fq, fr, ft, f43, f61]
  refine v6 (u := u) (v := v) (w := w) (z := z) ?_ ux ux2 uy uy2 xd xd2 yd yd2 hne hne' p1 p2 p3 p4 q1 q2 q3 q4 r1 r2 r3 r4 z1 z2 z3 z4 eu ev ew ez u0 v0 w0 z0 fun σ f10 G0' G1' GC' => ?_
  · refine ⟨⟨?_, ?_, ?_⟩, ⟨?_, ?_, ?_, ?_, ?_⟩, ?_, ?_, ?_, ?_, ?_⟩ <;> simp +decide only [zr_z0, zr_uI, zr_uJ, isO_put, isOw_put, put_fst, okv_int, okv_long, okv_ref, okv_bool, okv_byte, cat1_unset, cat1_int, cat1_ref, cs_nil, cs_int, cs_ref, cs_long, cmpL_lt, cmpL_gt, cmpL_eq, sI_uI, sI_uJ, sI_uA, sI_uB, sJ_uI, sJ_uJ, sJ_uA, sJ_uB, sA_uI, sA_uJ, sA_uA, sA_uB, sB_uI, sB_uJ, sB_uA, sB_uB, sI_fA, sJ_fA, sA_fA, sB_fA, sI_z0, sJ_z0, sA_z0, sB_z0, Option.toList_some, Option.toList_none, List.cons_append, List.nil_append, true_and, and_true, false_and, and_false, or_false, false_or, or_true, true_or, not_true_eq_false, not_false_eq_true, ↓reduceIte, Nat.reduceAdd, Nat.reduceLeDiff, Nat.reduceEqDiff, Nat.reduceSub, Int32.reduceAdd, Int32.reduceSub, Int32.reduceMul, Int32.reduceToNatClampNeg, Int64.reduceAdd, Int64.reduceSub, Int64.reduceMul, Int64.reduceLT, Int32.reduceLT, Int32.reduceToInt, Nat.add_zero, Nat.zero_add, Nat.le_refl, eq_self, implies_true, ne_eq]
  rw [ac, ac] at G0'
  rw [ac, ac, ac, ac, pu, qv, rw', tz] at G1'
  rw [pu, qv, rw', tz]
  have nm : (w * z / Nat.gcd (Nat.gcd (w * z) (u * z)) (v * w) = c0f u v w z ∧ u * z / Nat.gcd (Nat.gcd (w * z) (u * z)) (v * w) = u * c0f u v w z / w ∧ v * w / Nat.gcd (Nat.gcd (w * z) (u * z)) (v * w) = v * c0f u v w z / z) ∧ c0f u v w z ≤ 81 := by
    obtain ⟨a, rfl⟩ : ∃ a, u = a + 1 := ⟨u - 1, by omega⟩
    obtain ⟨b, rfl⟩ : ∃ a, v = a + 1 := ⟨v - 1, by omega⟩
    obtain ⟨c, rfl⟩ : ∃ a, w = a + 1 := ⟨w - 1, by omega⟩
    obtain ⟨d, rfl⟩ : ∃ a, z = a + 1 := ⟨z - 1, by omega⟩
    exact num ⟨a, by omega⟩ ⟨b, by omega⟩ ⟨c, by omega⟩ ⟨d, by omega⟩
  obtain ⟨⟨m1, m2, m3⟩, m4⟩ := nm
  obtain ⟨k1, k2, k3⟩ := GC'
  rw [m1] at k1
  rw [m2] at k2
  rw [m3] at k3
  obtain ⟨⟨n11, n12, n13⟩, n40, n41⟩ := G0'
  obtain ⟨n50, n51, n52, n53, n54, n55⟩ := G1'
  have gu : 0 < Nat.gcd u w ∧ Nat.gcd u w ≤ w := ⟨Nat.gcd_pos_of_pos_right _ w0.1, Nat.gcd_le_right _ w0.1⟩
  have gv : 0 < Nat.gcd v z ∧ Nat.gcd v z ≤ z := ⟨Nat.gcd_pos_of_pos_right _ z0.1, Nat.gcd_le_right _ z0.1⟩
  have au : 0 < w / Nat.gcd u w ∧ w / Nat.gcd u w ≤ w := ⟨Nat.div_pos gu.2 gu.1, Nat.div_le_self _ _⟩
  have av : 0 < z / Nat.gcd v z ∧ z / Nat.gcd v z ≤ z := ⟨Nat.div_pos gv.2 gv.1, Nat.div_le_self _ _⟩
  simp +decide only [w100_212, w100_214, w100_216, w100_218, zr_z0, zr_uI, zr_uJ, isO_put, isOw_put, put_fst, okv_int, okv_long, okv_ref, okv_bool, okv_byte, cat1_unset, cat1_int, cat1_ref, cs_nil, cs_int, cs_ref, cs_long, cmpL_lt, cmpL_gt, cmpL_eq, sI_uI, sI_uJ, sI_uA, sI_uB, sJ_uI, sJ_uJ, sJ_uA, sJ_uB, sA_uI, sA_uJ, sA_uA, sA_uB, sB_uI, sB_uJ, sB_uA, sB_uB, sI_fA, sJ_fA, sA_fA, sB_fA, sI_z0, sJ_z0, sA_z0, sB_z0, Option.toList_some, Option.toList_none, List.cons_append, List.nil_append, true_and, and_true, false_and, and_false, or_false, false_or, or_true, true_or, not_true_eq_false, not_false_eq_true, ↓reduceIte, Nat.reduceAdd, Nat.reduceLeDiff, Nat.reduceEqDiff, Nat.reduceSub, Int32.reduceAdd, Int32.reduceSub, Int32.reduceMul, Int32.reduceToNatClampNeg, Int64.reduceAdd, Int64.reduceSub, Int64.reduceMul, Int64.reduceLT, Int32.reduceLT, Int32.reduceToInt, Nat.add_zero, Nat.zero_add, Nat.le_refl, eq_self, implies_true, ne_eq]
  refine s102 (a := u) (b := w) (by omega) (by omega) ?_
  simp +decide only [w100_221, w100_223, w100_225, w100_227, zr_z0, zr_uI, zr_uJ, isO_put, isOw_put, put_fst, okv_int, okv_long, okv_ref, okv_bool, okv_byte, cat1_unset, cat1_int, cat1_ref, cs_nil, cs_int, cs_ref, cs_long, cmpL_lt, cmpL_gt, cmpL_eq, sI_uI, sI_uJ, sI_uA, sI_uB, sJ_uI, sJ_uJ, sJ_uA, sJ_uB, sA_uI, sA_uJ, sA_uA, sA_uB, sB_uI, sB_uJ, sB_uA, sB_uB, sI_fA, sJ_fA, sA_fA, sB_fA, sI_z0, sJ_z0, sA_z0, sB_z0, Option.toList_some, Option.toList_none, List.cons_append, List.nil_append, true_and, and_true, false_and, and_false, or_false, false_or, or_true, true_or, not_true_eq_false, not_false_eq_true, ↓reduceIte, Nat.reduceAdd, Nat.reduceLeDiff, Nat.reduceEqDiff, Nat.reduceSub, Int32.reduceAdd, Int32.reduceSub, Int32.reduceMul, Int32.reduceToNatClampNeg, Int64.reduceAdd, Int64.reduceSub, Int64.reduceMul, Int64.reduceLT, Int32.reduceLT, Int32.reduceToInt, Nat.add_zero, Nat.zero_add, Nat.le_refl, eq_self, implies_true, ne_eq]
  refine s102 (a := v) (b := z) (by omega) (by omega) ?_
  have e1 : Int32.ofNat w / Int32.ofNat (Nat.gcd u w) = Int32.ofNat (w / Nat.gcd u w) := div32 (by omega) (by omega)
  have e2 : Int32.ofNat z / Int32.ofNat (Nat.gcd v z) = Int32.ofNat (z / Nat.gcd v z) := div32 (by omega) (by omega)
  simp +decide only [w100_230, w100_232, w100_234, w100_236, w100_237, w100_239, w100_241, w100_243, w100_244, w100_246, w100_248, w100_250, zr_z0, zr_uI, zr_uJ, isO_put, isOw_put, put_fst, okv_int, okv_long, okv_ref, okv_bool, okv_byte, cat1_unset, cat1_int, cat1_ref, cs_nil, cs_int, cs_ref, cs_long, cmpL_lt, cmpL_gt, cmpL_eq, sI_uI, sI_uJ, sI_uA, sI_uB, sJ_uI, sJ_uJ, sJ_uA, sJ_uB, sA_uI, sA_uJ, sA_uA, sA_uB, sB_uI, sB_uJ, sB_uA, sB_uB, sI_fA, sJ_fA, sA_fA, sB_fA, sI_z0, sJ_z0, sA_z0, sB_z0, Option.toList_some, Option.toList_none, List.cons_append, List.nil_append, true_and, and_true, false_and, and_false, or_false, false_or, or_true, true_or, not_true_eq_false, not_false_eq_true, ↓reduceIte, Nat.reduceAdd, Nat.reduceLeDiff, Nat.reduceEqDiff, Nat.reduceSub, Int32.reduceAdd, Int32.reduceSub, Int32.reduceMul, Int32.reduceToNatClampNeg, Int64.reduceAdd, Int64.reduceSub, Int64.reduceMul, Int64.reduceLT, Int32.reduceLT, Int32.reduceToInt, Nat.add_zero, Nat.zero_add, Nat.le_refl, eq_self, implies_true, ne_eq, ne32 (a := Nat.gcd u w) (by omega) (by omega), ne32 (a := Nat.gcd v z) (by omega) (by omega), e1, e2]
  refine s102 (a := w / Nat.gcd u w) (b := z / Nat.gcd v z) (by omega) (by omega) ?_
  have gg : 0 < Nat.gcd (w / Nat.gcd u w) (z / Nat.gcd v z) ∧ Nat.gcd (w / Nat.gcd u w) (z / Nat.gcd v z) ≤ z / Nat.gcd v z := ⟨Nat.gcd_pos_of_pos_right _ av.1, Nat.gcd_le_right _ av.1⟩
  have pp : (w / Nat.gcd u w) * (z / Nat.gcd v z) ≤ 9 * 9 := Nat.mul_le_mul (by omega) (by omega)
  have e3 : Int32.ofNat (w / Nat.gcd u w) * Int32.ofNat (z / Nat.gcd v z) = Int32.ofNat ((w / Nat.gcd u w) * (z / Nat.gcd v z)) := (Int32.ofNat_mul _ _).symm
  have e4 : Int32.ofNat ((w / Nat.gcd u w) * (z / Nat.gcd v z)) / Int32.ofNat (Nat.gcd (w / Nat.gcd u w) (z / Nat.gcd v z)) = Int32.ofNat (c0f u v w z) := div32 (by omega) (by omega)
  have e5 : (Int32.ofNat (c0f u v w z)).toInt64 = Int64.ofNat (c0f u v w z) := o32 (by omega)
  have uc : u * c0f u v w z ≤ 9 * 81 := Nat.mul_le_mul (by omega) m4
  have vc : v * c0f u v w z ≤ 9 * 81 := Nat.mul_le_mul (by omega) m4
  have ng := ne32 (a := Nat.gcd (w / Nat.gcd u w) (z / Nat.gcd v z)) (by omega) (by omega)
  have nw := ne64 (a := w) (by omega) (by omega)
  have nz := ne64 (a := z) (by omega) (by omega)
  have ju := o32 (a := u) (by omega)
  have jv := o32 (a := v) (by omega)
  have jw := o32 (a := w) (by omega)
  have jz := o32 (a := z) (by omega)
  have e6 : Int64.ofNat u * Int64.ofNat (c0f u v w z) = Int64.ofNat (u * c0f u v w z) := mul64 (by omega)
  have e7 : Int64.ofNat v * Int64.ofNat (c0f u v w z) = Int64.ofNat (v * c0f u v w z) := mul64 (by omega)
  have e8 : Int64.ofNat (u * c0f u v w z) / Int64.ofNat w = Int64.ofNat (u * c0f u v w z / w) := div64 (by omega) (by omega)
  have e9 : Int64.ofNat (v * c0f u v w z) / Int64.ofNat z = Int64.ofNat (v * c0f u v w z / z) := div64 (by omega) (by omega)
  clear e1 e2
  generalize c0f u v w z = C at *
  generalize w / Nat.gcd u w = A1 at *
  generalize z / Nat.gcd v z = A2 at *
  generalize Nat.gcd A1 A2 = A3 at *
  simp +decide only [w100_253, w100_255, w100_257, w100_259, w100_260, w100_262, w100_263, w100_264uu, w100_266, w100_268, w100_269, w100_271, w100_272, w100_274, w100_275, w100_276uu, w100_278, w100_280, w100_281, w100_283, w100_284, w100_286, w100_287, w100_288uu, w100_290, w100_292, w100_295, w100_297, w100_299, w100_302, w100_304, w100_306, w100_309, w100_311, w100_313, w100_314, w100_317, w100_319, w100_321, w100_322, w100_325, w100_327, w100_329, w100_330, w100_331, w100_334, w100_336, w100_338, w100_339, w100_340, w100_343, w100_345, w100_347, w100_348, w100_349, w100_352, w100_354, w100_356, w100_357, w100_358, w100_361, w100_363, w100_365, w100_366, w100_367, w100_370, w100_372, w100_374, w100_375, w100_376, w100_379, w100_381, w100_383, w100_384, w100_387uu, w100_389, w100_391, w100_392, w100_395uu, w100_397, w100_399, w100_400, w100_403uu, w100_405, w100_407, w100_410, w100_412, w100_413, w100_416, w100_418, w100_419, w100_422, w100_424, w100_425, w100_428, w100_430, w100_432, w100_434, w100_435, w100_438, w100_440, w100_442, w100_444, w100_445, w100_448, w100_450, w100_452, w100_455, w100_457, w100_459, w100_462, w100_464, w100_466, w100_469, w100_471, w100_474, w100_476, w100_479, w100_481, w100_483, w100_486, w100_488, w100_490, w100_491, w100_494, w100_496, w100_498, w100_499, w100_502, w100_504, w100_506, w100_507, w100_510, w100_511, w100_514, w100_515, zr_z0, zr_uI, zr_uJ, isO_put, isOw_put, put_fst, okv_int, okv_long, okv_ref, okv_bool, okv_byte, cat1_unset, cat1_int, cat1_ref, cs_nil, cs_int, cs_ref, cs_long, cmpL_lt, cmpL_gt, cmpL_eq, sI_uI, sI_uJ, sI_uA, sI_uB, sJ_uI, sJ_uJ, sJ_uA, sJ_uB, sA_uI, sA_uJ, sA_uA, sA_uB, sB_uI, sB_uJ, sB_uA, sB_uB, sI_fA, sJ_fA, sA_fA, sB_fA, sI_z0, sJ_z0, sA_z0, sB_z0, Option.toList_some, Option.toList_none, List.cons_append, List.nil_append, true_and, and_true, false_and, and_false, or_false, false_or, or_true, true_or, not_true_eq_false, not_false_eq_true, ↓reduceIte, Nat.reduceAdd, Nat.reduceLeDiff, Nat.reduceEqDiff, Nat.reduceSub, Int32.reduceAdd, Int32.reduceSub, Int32.reduceMul, Int32.reduceToNatClampNeg, Int64.reduceAdd, Int64.reduceSub, Int64.reduceMul, Int64.reduceLT, Int32.reduceLT, Int32.reduceToInt, Nat.add_zero, Nat.zero_add, Nat.le_refl, eq_self, implies_true, ne_eq, g0, s0, g1, s1, g2, g3, s3, g4, g5, g6, s6, g7, s7, g8, s8, g9, s9, g10, s10, g11, s11, g12, s12, g13, s13, g14, g15, g16, g17, g18, g19, g20, g21, g22, g23, g24, g25, g26, s26, g27, s27, ai1, aw1, ae1, as1, ai2, aw2, ae2, as2, ai3, aw3, ae3, as3, ai4, aw4, ae4, as4, ai5, aw5, ae5, as5, ai6, aw6, ae6, as6, ai7, aw7, ae7, as7, ai8, aw8, ae8, as8, ai9, aw9, ae9, as9, ai10, aw10, ae10, as10, ai11, aw11, ae11, as11, ai12, aw12, ae12, as12, ai13, aw13, ae13, as13, ai14, aw14, ae14, as14, ai15, aw15, ae15, as15, c7, w7_0, w7_1, w7_4, w7_7, w7_8, w7_11, w7_14, w7_15, c8, w8_0, w8_1, w8_4, w8_7, w8_8, w8_11, w8_14, w8_15, c9, w9_0, w9_1, w9_4, w9_7, w9_8, w9_11, w9_14, w9_15, c10, w10_0, w10_1, w10_4, w10_7, w10_8, w10_11, w10_12, w10_13, w10_16, w10_19, w10_20, w10_22, w10_25, w10_26, w10_27, w10_28, w10_31, w10_32, w10_33, c11, w11_0, w11_1, w11_2, w11_5, w11_8, w11_9, w11_12, w11_13, w11_14, w11_17, w11_20, w11_21, w11_23, w11_26, w11_27, w11_28, w11_29, w11_32, w11_33, w11_35, w11_36, w11_37, w11_38, w11_39, c13, w13_0, w13_1, w13_2, w13_5, w13_8, w13_9, w13_10, w13_11, w13_14, w13_15, w13_16, c18, w18_0, w18_1, w18_4, w18_7, w18_8, w18_11, w18_12, w18_13, w18_16, w18_19, w18_20, w18_22, w18_25, w18_26, w18_29, w18_30, e3, e4, e5, e6, e7, e8, e9, ng, nw, nz, ju, jv, jw, jz, f10, n11, n12, n13, n40, n41, n50, n51, n52, n53, n54, n55, k1, k2, k3]
end X5

end Jvm.JX.Lw
namespace Jvm.Pilot.@@N@@
open Jvm Jvm.ClassFile Sem Op Lib Jvm.Free Jvm.Stand Jvm.LawKit Jvm.RoadKit Bundle Jvm.Pilot.@@N@@.Jvm.D Jvm.JX Jvm.JX.Pj Jvm.JX.Lw
def nmL : List (Nat × MethodName) := [(1, ⟨"ChemBalancer", "<init>", "(II)V"⟩), (2, ⟨"ChemBalancer", "feed", "(I)Z"⟩), (6, ⟨"ChemBalancer", "balance", "()I"⟩), (7, ⟨"ChemBalancer", "getSpeciesCount", "()I"⟩), (8, ⟨"ChemBalancer", "getLeftCount", "()I"⟩), (9, ⟨"ChemBalancer", "getElementCount", "()I"⟩), (10, ⟨"ChemBalancer", "getElementCode", "(I)I"⟩), (11, ⟨"ChemBalancer", "getCount", "(II)I"⟩), (13, ⟨"ChemBalancer", "getCoefficient", "(I)J"⟩), (18, ⟨"ChemBalancer", "validSpecies", "(I)Z"⟩), (20, ⟨"ChemBalancer", "isUpper", "(I)Z"⟩), (21, ⟨"ChemBalancer", "isLower", "(I)Z"⟩), (22, ⟨"ChemBalancer", "isDigit", "(I)Z"⟩), (23, ⟨"ChemBalancer", "isAccepted", "(I)Z"⟩), (24, ⟨"ChemBalancer", "validate", "()Z"⟩), (25, ⟨"ChemBalancer", "scanAtom", "(I)I"⟩), (26, ⟨"ChemBalancer", "noteElement", "(I)V"⟩), (27, ⟨"ChemBalancer", "numberEnd", "(I)I"⟩), (29, ⟨"ChemBalancer", "computeCounts", "()V"⟩), (30, ⟨"ChemBalancer", "addAtom", "(II)I"⟩), (33, ⟨"ChemBalancer", "foldHunit", "(IJ)V"⟩), (34, ⟨"ChemBalancer", "readNumber", "(I)I"⟩), (35, ⟨"ChemBalancer", "elemIndex", "(I)I"⟩), (36, ⟨"ChemBalancer", "countsFit", "()Z"⟩), (37, ⟨"ChemBalancer", "buildMatrix", "()V"⟩), (38, ⟨"ChemBalancer", "eliminate", "(II)I"⟩), (39, ⟨"ChemBalancer", "findPivot", "(III)I"⟩), (41, ⟨"ChemBalancer", "reduceRow", "(IIIJJ)V"⟩), (42, ⟨"ChemBalancer", "solveNullVector", "(I)Z"⟩), (43, ⟨"ChemBalancer", "signedMinor", "(II)J"⟩), (44, ⟨"ChemBalancer", "loadMinor", "(II)V"⟩), (45, ⟨"ChemBalancer", "normalize", "()Z"⟩), (46, ⟨"ChemBalancer", "gcd", "(JJ)J"⟩), (100, ⟨"ChemBalancerL3", "law", "(IIIIII)Z"⟩), (102, ⟨"ChemBalancerL3", "gcd", "(II)I"⟩)]
def nm (m : Nat) : MethodName := (nmL.lookup m).getD ⟨"", "", ""⟩
def btL : List (Nat × ByteArray) := [(1, prog_1_method_1_code), (2, prog_1_method_2_code), (6, prog_1_method_6_code), (7, prog_1_method_7_code), (8, prog_1_method_8_code), (9, prog_1_method_9_code), (10, prog_1_method_10_code), (11, prog_1_method_11_code), (13, prog_1_method_13_code), (18, prog_1_method_18_code), (20, prog_1_method_20_code), (21, prog_1_method_21_code), (22, prog_1_method_22_code), (23, prog_1_method_23_code), (24, prog_1_method_24_code), (25, prog_1_method_25_code), (26, prog_1_method_26_code), (27, prog_1_method_27_code), (29, prog_1_method_29_code), (30, prog_1_method_30_code), (33, prog_1_method_33_code), (34, prog_1_method_34_code), (35, prog_1_method_35_code), (36, prog_1_method_36_code), (37, prog_1_method_37_code), (38, prog_1_method_38_code), (39, prog_1_method_39_code), (41, prog_1_method_41_code), (42, prog_1_method_42_code), (43, prog_1_method_43_code), (44, prog_1_method_44_code), (45, prog_1_method_45_code), (46, prog_1_method_46_code), (100, code), (102, method_2_code)]
def bt (m : Nat) : ByteArray := (btL.lookup m).getD ⟨#[]⟩
def fnL : List (String × String) := [("maxSpecies", "I"), ("maxElements", "I"), ("buf", "[I"), ("len", "I"), ("openStack", "[I"), ("seenCodes", "[I"), ("seenCount", "I"), ("parsedSpecies", "I"), ("parsedLeft", "I"), ("numEnd", "I"), ("present", "Z"), ("n", "I"), ("left", "I"), ("elems", "I"), ("elemCode", "[I"), ("count", "[I"), ("charge", "[I"), ("coef", "[J"), ("amount", "[J"), ("cnt", "[J"), ("acc", "[J"), ("mat", "[J"), ("work", "[J"), ("perm", "[I"), ("sel", "[I"), ("vec", "[J"), ("swapSign", "I"), ("lastPivot", "J")]
def fn (k : Nat) : String × String := fnL.getD k ("", "")
def RL : List Nat := [1, 2, 6, 7, 8, 9, 10, 11, 13, 18, 20, 21, 22, 23, 24, 25, 26, 27, 29, 30, 33, 34, 35, 36, 37, 38, 39, 41, 42, 43, 44, 45, 46, 100, 102]
def FS : List Nat := [0, 1, 2, 3, 4, 5, 6, 7, 8, 9, 10, 11, 12, 13, 14, 15, 16, 17, 18, 19, 20, 21, 22, 23, 24, 25, 26, 27]
def WF : List Nat := [0, 1, 3, 6, 7, 8, 9, 10, 11, 12, 13, 26, 27]
def FL : List (Nat × Nat × Nat) := [(0, 7, 2), (0, 13, 4), (0, 16, 5), (0, 19, 14), (0, 22, 15), (0, 25, 16), (0, 28, 17), (0, 32, 18), (0, 35, 19), (0, 38, 20), (0, 41, 21), (0, 44, 22), (0, 47, 23), (0, 50, 24), (0, 53, 25), (0, 56, 0), (0, 60, 1), (0, 63, 3), (0, 66, 10), (0, 78, 7), (0, 81, 6), (0, 84, 11), (0, 87, 8), (0, 90, 12), (0, 93, 13), (0, 158, 9), (0, 169, 26), (0, 172, 27)]
def ML : List (Nat × Nat × Nat) := [(0, 70, 23), (0, 74, 24), (0, 96, 29), (0, 99, 36), (0, 102, 37), (0, 105, 38), (0, 109, 42), (0, 112, 18), (0, 122, 20), (0, 125, 21), (0, 128, 22), (0, 131, 25), (0, 135, 27), (0, 141, 26), (0, 145, 30), (0, 151, 33), (0, 155, 34), (0, 164, 35), (0, 176, 39), (0, 184, 41), (0, 188, 43), (0, 192, 45), (0, 195, 44), (0, 198, 46), (1, 9, 1), (1, 12, 2), (1, 16, 6), (1, 20, 102), (1, 26, 7), (1, 29, 8), (1, 32, 9), (1, 35, 10), (1, 39, 11), (1, 42, 13)]
def KI : List (Nat × Nat × Int) := []
def KJ : List (Nat × Nat × Int) := [(0, 167, 24), (0, 202, -1)]
def ATL : List FieldType := [.int, .long]
def cn (j : Nat) : String := if j = 0 then "ChemBalancer" else "ChemBalancerL3"
def own (m : Nat) : Nat := if m < 100 then 0 else 1
def ini (m : Nat) : Bool := m == 1
def rowsOf (m : Nat) : List Jvm.JX.Row := if m < 100 then prows.getD m [] else lrows.getD (m - 100) []
theorem hFL : ∀ t ∈ FL, t.2.2 ∈ FS ∧ Jvm.Cond.fieldLink (cn t.1) t.2.1 "ChemBalancer" (fn t.2.2).1 (fn t.2.2).2 ∈ tables_1 := (faS ⟨by decide, (List.mem_of_getElem? (i := 10) rfl)⟩ (faS ⟨by decide, (List.mem_of_getElem? (i := 12) rfl)⟩ (faS ⟨by decide, (List.mem_of_getElem? (i := 14) rfl)⟩ (faS ⟨by decide, (List.mem_of_getElem? (i := 16) rfl)⟩ (faS ⟨by decide, (List.mem_of_getElem? (i := 18) rfl)⟩ (faS ⟨by decide, (List.mem_of_getElem? (i := 20) rfl)⟩ (faS ⟨by decide, (List.mem_of_getElem? (i := 23) rfl)⟩ (faS ⟨by decide, (List.mem_of_getElem? (i := 25) rfl)⟩ (faS ⟨by decide, (List.mem_of_getElem? (i := 27) rfl)⟩ (faS ⟨by decide, (List.mem_of_getElem? (i := 29) rfl)⟩ (faS ⟨by decide, (List.mem_of_getElem? (i := 31) rfl)⟩ (faS ⟨by decide, (List.mem_of_getElem? (i := 33) rfl)⟩ (faS ⟨by decide, (List.mem_of_getElem? (i := 35) rfl)⟩ (faS ⟨by decide, (List.mem_of_getElem? (i := 37) rfl)⟩ (faS ⟨by decide, (List.mem_of_getElem? (i := 39) rfl)⟩ (faS ⟨by decide, (List.mem_of_getElem? (i := 41) rfl)⟩ (faS ⟨by decide, (List.mem_of_getElem? (i := 43) rfl)⟩ (faS ⟨by decide, (List.mem_of_getElem? (i := 45) rfl)⟩ (faS ⟨by decide, (List.mem_of_getElem? (i := 47) rfl)⟩ (faS ⟨by decide, (List.mem_of_getElem? (i := 81) rfl)⟩ (faS ⟨by decide, (List.mem_of_getElem? (i := 79) rfl)⟩ (faS ⟨by decide, (List.mem_of_getElem? (i := 97) rfl)⟩ (faS ⟨by decide, (List.mem_of_getElem? (i := 83) rfl)⟩ (faS ⟨by decide, (List.mem_of_getElem? (i := 99) rfl)⟩ (faS ⟨by decide, (List.mem_of_getElem? (i := 101) rfl)⟩ (faS ⟨by decide, (List.mem_of_getElem? (i := 119) rfl)⟩ (faS ⟨by decide, (List.mem_of_getElem? (i := 138) rfl)⟩ (faS ⟨by decide, (List.mem_of_getElem? (i := 140) rfl)⟩ fa0))))))))))))))))))))))))))))
theorem hWF : ∀ k ∈ WF, Jvm.Cond.lays "ChemBalancer" "ChemBalancer" (fn k).1 (fn k).2 ∈ tables_1 := (faS (List.mem_of_getElem? (i := 42) rfl) (faS (List.mem_of_getElem? (i := 44) rfl) (faS (List.mem_of_getElem? (i := 46) rfl) (faS (List.mem_of_getElem? (i := 80) rfl) (faS (List.mem_of_getElem? (i := 82) rfl) (faS (List.mem_of_getElem? (i := 84) rfl) (faS (List.mem_of_getElem? (i := 120) rfl) (faS (List.mem_of_getElem? (i := 48) rfl) (faS (List.mem_of_getElem? (i := 98) rfl) (faS (List.mem_of_getElem? (i := 100) rfl) (faS (List.mem_of_getElem? (i := 102) rfl) (faS (List.mem_of_getElem? (i := 139) rfl) (faS (List.mem_of_getElem? (i := 141) rfl) fa0)))))))))))))
theorem hML : ∀ t ∈ ML, t.2.2 ∈ RL ∧ Jvm.Cond.methodLink (cn t.1) t.2.1 (nm t.2.2) ∈ tables_1 := (faS ⟨by decide, (List.mem_of_getElem? (i := 54) rfl)⟩ (faS ⟨by decide, (List.mem_of_getElem? (i := 75) rfl)⟩ (faS ⟨by decide, (List.mem_of_getElem? (i := 103) rfl)⟩ (faS ⟨by decide, (List.mem_of_getElem? (i := 125) rfl)⟩ (faS ⟨by decide, (List.mem_of_getElem? (i := 130) rfl)⟩ (faS ⟨by decide, (List.mem_of_getElem? (i := 134) rfl)⟩ (faS ⟨by decide, (List.mem_of_getElem? (i := 150) rfl)⟩ (faS ⟨by decide, (List.mem_of_getElem? (i := 199) rfl)⟩ (faS ⟨by decide, (List.mem_of_getElem? (i := 58) rfl)⟩ (faS ⟨by decide, (List.mem_of_getElem? (i := 62) rfl)⟩ (faS ⟨by decide, (List.mem_of_getElem? (i := 66) rfl)⟩ (faS ⟨by decide, (List.mem_of_getElem? (i := 85) rfl)⟩ (faS ⟨by decide, (List.mem_of_getElem? (i := 93) rfl)⟩ (faS ⟨by decide, (List.mem_of_getElem? (i := 89) rfl)⟩ (faS ⟨by decide, (List.mem_of_getElem? (i := 107) rfl)⟩ (faS ⟨by decide, (List.mem_of_getElem? (i := 121) rfl)⟩ (faS ⟨by decide, (List.mem_of_getElem? (i := 115) rfl)⟩ (faS ⟨by decide, (List.mem_of_getElem? (i := 111) rfl)⟩ (faS ⟨by decide, (List.mem_of_getElem? (i := 142) rfl)⟩ (faS ⟨by decide, (List.mem_of_getElem? (i := 146) rfl)⟩ (faS ⟨by decide, (List.mem_of_getElem? (i := 154) rfl)⟩ (faS ⟨by decide, (List.mem_of_getElem? (i := 162) rfl)⟩ (faS ⟨by decide, (List.mem_of_getElem? (i := 158) rfl)⟩ (faS ⟨by decide, (List.mem_of_getElem? (i := 166) rfl)⟩ (faS ⟨by decide, (List.mem_of_getElem? (i := 3) rfl)⟩ (faS ⟨by decide, (List.mem_of_getElem? (i := 49) rfl)⟩ (faS ⟨by decide, (List.mem_of_getElem? (i := 70) rfl)⟩ (faS ⟨by decide, (List.mem_of_getElem? (i := 170) rfl)⟩ (faS ⟨by decide, (List.mem_of_getElem? (i := 174) rfl)⟩ (faS ⟨by decide, (List.mem_of_getElem? (i := 179) rfl)⟩ (faS ⟨by decide, (List.mem_of_getElem? (i := 184) rfl)⟩ (faS ⟨by decide, (List.mem_of_getElem? (i := 189) rfl)⟩ (faS ⟨by decide, (List.mem_of_getElem? (i := 194) rfl)⟩ (faS ⟨by decide, (List.mem_of_getElem? (i := 203) rfl)⟩ fa0))))))))))))))))))))))))))))))))))
theorem hKI : ∀ t ∈ KI, Jvm.Cond.constant (cn t.1) t.2.1 (Int32.ofInt t.2.2) ∈ tables_1 := fa0
theorem hKJ : ∀ t ∈ KJ, Jvm.Cond.constantLong (cn t.1) t.2.1 (Int64.ofInt t.2.2) ∈ tables_1 := (faS (List.mem_of_getElem? (i := 129) rfl) (faS (List.mem_of_getElem? (i := 208) rfl) fa0))
theorem hAT : ∀ t ∈ ATL, Jvm.Cond.arrayClass t ∈ tables_1 := (faS (List.mem_of_getElem? (i := 9) rfl) (faS (List.mem_of_getElem? (i := 22) rfl) fa0))
theorem hr1x0 : ((rowsOf 1).take 40).all (rowOne FL ML KI KJ ATL WF 28 7 bt own ini 1) = true := by decide +kernel
theorem hr1x1 : (((rowsOf 1).drop 40).take 40).all (rowOne FL ML KI KJ ATL WF 28 7 bt own ini 1) = true := by decide +kernel
theorem hr1x2 : (((rowsOf 1).drop 40).drop 40).all (rowOne FL ML KI KJ ATL WF 28 7 bt own ini 1) = true := by decide +kernel
theorem hr1 : (rowsOf 1).all (rowOne FL ML KI KJ ATL WF 28 7 bt own ini 1) = true := (all_td 40 hr1x0 (all_td 40 hr1x1 hr1x2))
theorem hr2 : (rowsOf 2).all (rowOne FL ML KI KJ ATL WF 28 7 bt own ini 2) = true := by decide +kernel
theorem hr6x0 : ((rowsOf 6).take 40).all (rowOne FL ML KI KJ ATL WF 28 7 bt own ini 6) = true := by decide +kernel
theorem hr6x1 : (((rowsOf 6).drop 40).take 40).all (rowOne FL ML KI KJ ATL WF 28 7 bt own ini 6) = true := by decide +kernel
theorem hr6x2 : (((rowsOf 6).drop 40).drop 40).all (rowOne FL ML KI KJ ATL WF 28 7 bt own ini 6) = true := by decide +kernel
theorem hr6 : (rowsOf 6).all (rowOne FL ML KI KJ ATL WF 28 7 bt own ini 6) = true := (all_td 40 hr6x0 (all_td 40 hr6x1 hr6x2))
theorem hr7 : (rowsOf 7).all (rowOne FL ML KI KJ ATL WF 28 7 bt own ini 7) = true := by decide +kernel
theorem hr8 : (rowsOf 8).all (rowOne FL ML KI KJ ATL WF 28 7 bt own ini 8) = true := by decide +kernel
theorem hr9 : (rowsOf 9).all (rowOne FL ML KI KJ ATL WF 28 7 bt own ini 9) = true := by decide +kernel
theorem hr10 : (rowsOf 10).all (rowOne FL ML KI KJ ATL WF 28 7 bt own ini 10) = true := by decide +kernel
theorem hr11 : (rowsOf 11).all (rowOne FL ML KI KJ ATL WF 28 7 bt own ini 11) = true := by decide +kernel
theorem hr13 : (rowsOf 13).all (rowOne FL ML KI KJ ATL WF 28 7 bt own ini 13) = true := by decide +kernel
theorem hr18 : (rowsOf 18).all (rowOne FL ML KI KJ ATL WF 28 7 bt own ini 18) = true := by decide +kernel
theorem hr20 : (rowsOf 20).all (rowOne FL ML KI KJ ATL WF 28 7 bt own ini 20) = true := by decide +kernel
theorem hr21 : (rowsOf 21).all (rowOne FL ML KI KJ ATL WF 28 7 bt own ini 21) = true := by decide +kernel
theorem hr22 : (rowsOf 22).all (rowOne FL ML KI KJ ATL WF 28 7 bt own ini 22) = true := by decide +kernel
theorem hr23 : (rowsOf 23).all (rowOne FL ML KI KJ ATL WF 28 7 bt own ini 23) = true := by decide +kernel
theorem hr24x0 : ((rowsOf 24).take 40).all (rowOne FL ML KI KJ ATL WF 28 7 bt own ini 24) = true := by decide +kernel
theorem hr24x1 : (((rowsOf 24).drop 40).take 40).all (rowOne FL ML KI KJ ATL WF 28 7 bt own ini 24) = true := by decide +kernel
theorem hr24x2 : ((((rowsOf 24).drop 40).drop 40).take 40).all (rowOne FL ML KI KJ ATL WF 28 7 bt own ini 24) = true := by decide +kernel
theorem hr24x3 : (((((rowsOf 24).drop 40).drop 40).drop 40).take 40).all (rowOne FL ML KI KJ ATL WF 28 7 bt own ini 24) = true := by decide +kernel
theorem hr24x4 : (((((rowsOf 24).drop 40).drop 40).drop 40).drop 40).all (rowOne FL ML KI KJ ATL WF 28 7 bt own ini 24) = true := by decide +kernel
theorem hr24 : (rowsOf 24).all (rowOne FL ML KI KJ ATL WF 28 7 bt own ini 24) = true := (all_td 40 hr24x0 (all_td 40 hr24x1 (all_td 40 hr24x2 (all_td 40 hr24x3 hr24x4))))
theorem hr25 : (rowsOf 25).all (rowOne FL ML KI KJ ATL WF 28 7 bt own ini 25) = true := by decide +kernel
theorem hr26 : (rowsOf 26).all (rowOne FL ML KI KJ ATL WF 28 7 bt own ini 26) = true := by decide +kernel
theorem hr27x0 : ((rowsOf 27).take 40).all (rowOne FL ML KI KJ ATL WF 28 7 bt own ini 27) = true := by decide +kernel
theorem hr27x1 : ((rowsOf 27).drop 40).all (rowOne FL ML KI KJ ATL WF 28 7 bt own ini 27) = true := by decide +kernel
theorem hr27 : (rowsOf 27).all (rowOne FL ML KI KJ ATL WF 28 7 bt own ini 27) = true := (all_td 40 hr27x0 hr27x1)
theorem hr29x0 : ((rowsOf 29).take 40).all (rowOne FL ML KI KJ ATL WF 28 7 bt own ini 29) = true := by decide +kernel
theorem hr29x1 : (((rowsOf 29).drop 40).take 40).all (rowOne FL ML KI KJ ATL WF 28 7 bt own ini 29) = true := by decide +kernel
theorem hr29x2 : ((((rowsOf 29).drop 40).drop 40).take 40).all (rowOne FL ML KI KJ ATL WF 28 7 bt own ini 29) = true := by decide +kernel
theorem hr29x3 : ((((rowsOf 29).drop 40).drop 40).drop 40).all (rowOne FL ML KI KJ ATL WF 28 7 bt own ini 29) = true := by decide +kernel
theorem hr29 : (rowsOf 29).all (rowOne FL ML KI KJ ATL WF 28 7 bt own ini 29) = true := (all_td 40 hr29x0 (all_td 40 hr29x1 (all_td 40 hr29x2 hr29x3)))
theorem hr30x0 : ((rowsOf 30).take 40).all (rowOne FL ML KI KJ ATL WF 28 7 bt own ini 30) = true := by decide +kernel
theorem hr30x1 : ((rowsOf 30).drop 40).all (rowOne FL ML KI KJ ATL WF 28 7 bt own ini 30) = true := by decide +kernel
theorem hr30 : (rowsOf 30).all (rowOne FL ML KI KJ ATL WF 28 7 bt own ini 30) = true := (all_td 40 hr30x0 hr30x1)
theorem hr33 : (rowsOf 33).all (rowOne FL ML KI KJ ATL WF 28 7 bt own ini 33) = true := by decide +kernel
theorem hr34 : (rowsOf 34).all (rowOne FL ML KI KJ ATL WF 28 7 bt own ini 34) = true := by decide +kernel
theorem hr35 : (rowsOf 35).all (rowOne FL ML KI KJ ATL WF 28 7 bt own ini 35) = true := by decide +kernel
theorem hr36 : (rowsOf 36).all (rowOne FL ML KI KJ ATL WF 28 7 bt own ini 36) = true := by decide +kernel
theorem hr37x0 : ((rowsOf 37).take 40).all (rowOne FL ML KI KJ ATL WF 28 7 bt own ini 37) = true := by decide +kernel
theorem hr37x1 : (((rowsOf 37).drop 40).take 40).all (rowOne FL ML KI KJ ATL WF 28 7 bt own ini 37) = true := by decide +kernel
theorem hr37x2 : (((rowsOf 37).drop 40).drop 40).all (rowOne FL ML KI KJ ATL WF 28 7 bt own ini 37) = true := by decide +kernel
theorem hr37 : (rowsOf 37).all (rowOne FL ML KI KJ ATL WF 28 7 bt own ini 37) = true := (all_td 40 hr37x0 (all_td 40 hr37x1 hr37x2))
theorem hr38x0 : ((rowsOf 38).take 40).all (rowOne FL ML KI KJ ATL WF 28 7 bt own ini 38) = true := by decide +kernel
theorem hr38x1 : (((rowsOf 38).drop 40).take 40).all (rowOne FL ML KI KJ ATL WF 28 7 bt own ini 38) = true := by decide +kernel
theorem hr38x2 : (((rowsOf 38).drop 40).drop 40).all (rowOne FL ML KI KJ ATL WF 28 7 bt own ini 38) = true := by decide +kernel
theorem hr38 : (rowsOf 38).all (rowOne FL ML KI KJ ATL WF 28 7 bt own ini 38) = true := (all_td 40 hr38x0 (all_td 40 hr38x1 hr38x2))
theorem hr39 : (rowsOf 39).all (rowOne FL ML KI KJ ATL WF 28 7 bt own ini 39) = true := by decide +kernel
theorem hr41 : (rowsOf 41).all (rowOne FL ML KI KJ ATL WF 28 7 bt own ini 41) = true := by decide +kernel
theorem hr42 : (rowsOf 42).all (rowOne FL ML KI KJ ATL WF 28 7 bt own ini 42) = true := by decide +kernel
theorem hr43 : (rowsOf 43).all (rowOne FL ML KI KJ ATL WF 28 7 bt own ini 43) = true := by decide +kernel
theorem hr44x0 : ((rowsOf 44).take 40).all (rowOne FL ML KI KJ ATL WF 28 7 bt own ini 44) = true := by decide +kernel
theorem hr44x1 : ((rowsOf 44).drop 40).all (rowOne FL ML KI KJ ATL WF 28 7 bt own ini 44) = true := by decide +kernel
theorem hr44 : (rowsOf 44).all (rowOne FL ML KI KJ ATL WF 28 7 bt own ini 44) = true := (all_td 40 hr44x0 hr44x1)
theorem hr45x0 : ((rowsOf 45).take 40).all (rowOne FL ML KI KJ ATL WF 28 7 bt own ini 45) = true := by decide +kernel
theorem hr45x1 : (((rowsOf 45).drop 40).take 40).all (rowOne FL ML KI KJ ATL WF 28 7 bt own ini 45) = true := by decide +kernel
theorem hr45x2 : (((rowsOf 45).drop 40).drop 40).all (rowOne FL ML KI KJ ATL WF 28 7 bt own ini 45) = true := by decide +kernel
theorem hr45 : (rowsOf 45).all (rowOne FL ML KI KJ ATL WF 28 7 bt own ini 45) = true := (all_td 40 hr45x0 (all_td 40 hr45x1 hr45x2))
theorem hr46 : (rowsOf 46).all (rowOne FL ML KI KJ ATL WF 28 7 bt own ini 46) = true := by decide +kernel
theorem hr100x0 : ((rowsOf 100).take 40).all (rowOne FL ML KI KJ ATL WF 28 7 bt own ini 100) = true := by decide +kernel
theorem hr100x1 : (((rowsOf 100).drop 40).take 40).all (rowOne FL ML KI KJ ATL WF 28 7 bt own ini 100) = true := by decide +kernel
theorem hr100x2 : ((((rowsOf 100).drop 40).drop 40).take 40).all (rowOne FL ML KI KJ ATL WF 28 7 bt own ini 100) = true := by decide +kernel
theorem hr100x3 : (((((rowsOf 100).drop 40).drop 40).drop 40).take 40).all (rowOne FL ML KI KJ ATL WF 28 7 bt own ini 100) = true := by decide +kernel
theorem hr100x4 : ((((((rowsOf 100).drop 40).drop 40).drop 40).drop 40).take 40).all (rowOne FL ML KI KJ ATL WF 28 7 bt own ini 100) = true := by decide +kernel
theorem hr100x5 : (((((((rowsOf 100).drop 40).drop 40).drop 40).drop 40).drop 40).take 40).all (rowOne FL ML KI KJ ATL WF 28 7 bt own ini 100) = true := by decide +kernel
theorem hr100x6 : ((((((((rowsOf 100).drop 40).drop 40).drop 40).drop 40).drop 40).drop 40).take 40).all (rowOne FL ML KI KJ ATL WF 28 7 bt own ini 100) = true := by decide +kernel
theorem hr100x7 : ((((((((rowsOf 100).drop 40).drop 40).drop 40).drop 40).drop 40).drop 40).drop 40).all (rowOne FL ML KI KJ ATL WF 28 7 bt own ini 100) = true := by decide +kernel
theorem hr100 : (rowsOf 100).all (rowOne FL ML KI KJ ATL WF 28 7 bt own ini 100) = true := (all_td 40 hr100x0 (all_td 40 hr100x1 (all_td 40 hr100x2 (all_td 40 hr100x3 (all_td 40 hr100x4 (all_td 40 hr100x5 (all_td 40 hr100x6 hr100x7)))))))
theorem hr102 : (rowsOf 102).all (rowOne FL ML KI KJ ATL WF 28 7 bt own ini 102) = true := by decide +kernel
theorem hrows : RL.all (fun m => (rowsOf m).all (rowOne FL ML KI KJ ATL WF 28 7 bt own ini m)) = true := (all_c hr1 (all_c hr2 (all_c hr6 (all_c hr7 (all_c hr8 (all_c hr9 (all_c hr10 (all_c hr11 (all_c hr13 (all_c hr18 (all_c hr20 (all_c hr21 (all_c hr22 (all_c hr23 (all_c hr24 (all_c hr25 (all_c hr26 (all_c hr27 (all_c hr29 (all_c hr30 (all_c hr33 (all_c hr34 (all_c hr35 (all_c hr36 (all_c hr37 (all_c hr38 (all_c hr39 (all_c hr41 (all_c hr42 (all_c hr43 (all_c hr44 (all_c hr45 (all_c hr46 (all_c hr100 (all_c hr102 all_n)))))))))))))))))))))))))))))))))))
theorem cal1 : CalOk (pj lw) tables_1 "ChemBalancer" nm bt 1 := ⟨(List.mem_of_getElem? (i := 5) rfl), (List.mem_of_getElem? (i := 2) rfl), ⟨[.int, .int], none, by decide +kernel, rfl⟩, fun h => absurd h (by decide), fun _ => ⟨rfl, (List.mem_of_getElem? (i := 4) rfl)⟩, fun h => absurd h (by decide), fun h => absurd h (by decide), fun _ => ⟨rfl, rfl⟩⟩
theorem cal2 : CalOk (pj lw) tables_1 "ChemBalancer" nm bt 2 := ⟨(List.mem_of_getElem? (i := 53) rfl), (List.mem_of_getElem? (i := 2) rfl), ⟨[.int], some .boolean, by decide +kernel, rfl⟩, fun h => absurd h (by decide), fun _ => ⟨rfl, (List.mem_of_getElem? (i := 51) rfl)⟩, fun _ => ⟨(List.mem_of_getElem? (i := 50) rfl), (List.mem_of_getElem? (i := 52) rfl)⟩, fun h => absurd h (by decide), fun h => absurd h (by decide)⟩
theorem cal6 : CalOk (pj lw) tables_1 "ChemBalancer" nm bt 6 := ⟨(List.mem_of_getElem? (i := 74) rfl), (List.mem_of_getElem? (i := 2) rfl), ⟨[], some .int, by decide +kernel, rfl⟩, fun h => absurd h (by decide), fun _ => ⟨rfl, (List.mem_of_getElem? (i := 72) rfl)⟩, fun _ => ⟨(List.mem_of_getElem? (i := 71) rfl), (List.mem_of_getElem? (i := 73) rfl)⟩, fun h => absurd h (by decide), fun h => absurd h (by decide)⟩
theorem cal7 : CalOk (pj lw) tables_1 "ChemBalancer" nm bt 7 := ⟨(List.mem_of_getElem? (i := 178) rfl), (List.mem_of_getElem? (i := 2) rfl), ⟨[], some .int, by decide +kernel, rfl⟩, fun h => absurd h (by decide), fun _ => ⟨rfl, (List.mem_of_getElem? (i := 176) rfl)⟩, fun _ => ⟨(List.mem_of_getElem? (i := 175) rfl), (List.mem_of_getElem? (i := 177) rfl)⟩, fun h => absurd h (by decide), fun h => absurd h (by decide)⟩
theorem cal8 : CalOk (pj lw) tables_1 "ChemBalancer" nm bt 8 := ⟨(List.mem_of_getElem? (i := 183) rfl), (List.mem_of_getElem? (i := 2) rfl), ⟨[], some .int, by decide +kernel, rfl⟩, fun h => absurd h (by decide), fun _ => ⟨rfl, (List.mem_of_getElem? (i := 181) rfl)⟩, fun _ => ⟨(List.mem_of_getElem? (i := 180) rfl), (List.mem_of_getElem? (i := 182) rfl)⟩, fun h => absurd h (by decide), fun h => absurd h (by decide)⟩
theorem cal9 : CalOk (pj lw) tables_1 "ChemBalancer" nm bt 9 := ⟨(List.mem_of_getElem? (i := 188) rfl), (List.mem_of_getElem? (i := 2) rfl), ⟨[], some .int, by decide +kernel, rfl⟩, fun h => absurd h (by decide), fun _ => ⟨rfl, (List.mem_of_getElem? (i := 186) rfl)⟩, fun _ => ⟨(List.mem_of_getElem? (i := 185) rfl), (List.mem_of_getElem? (i := 187) rfl)⟩, fun h => absurd h (by decide), fun h => absurd h (by decide)⟩
theorem cal10 : CalOk (pj lw) tables_1 "ChemBalancer" nm bt 10 := ⟨(List.mem_of_getElem? (i := 193) rfl), (List.mem_of_getElem? (i := 2) rfl), ⟨[.int], some .int, by decide +kernel, rfl⟩, fun h => absurd h (by decide), fun _ => ⟨rfl, (List.mem_of_getElem? (i := 191) rfl)⟩, fun _ => ⟨(List.mem_of_getElem? (i := 190) rfl), (List.mem_of_getElem? (i := 192) rfl)⟩, fun h => absurd h (by decide), fun h => absurd h (by decide)⟩
theorem cal11 : CalOk (pj lw) tables_1 "ChemBalancer" nm bt 11 := ⟨(List.mem_of_getElem? (i := 198) rfl), (List.mem_of_getElem? (i := 2) rfl), ⟨[.int, .int], some .int, by decide +kernel, rfl⟩, fun h => absurd h (by decide), fun _ => ⟨rfl, (List.mem_of_getElem? (i := 196) rfl)⟩, fun _ => ⟨(List.mem_of_getElem? (i := 195) rfl), (List.mem_of_getElem? (i := 197) rfl)⟩, fun h => absurd h (by decide), fun h => absurd h (by decide)⟩
theorem cal13 : CalOk (pj lw) tables_1 "ChemBalancer" nm bt 13 := ⟨(List.mem_of_getElem? (i := 207) rfl), (List.mem_of_getElem? (i := 2) rfl), ⟨[.int], some .long, by decide +kernel, rfl⟩, fun h => absurd h (by decide), fun _ => ⟨rfl, (List.mem_of_getElem? (i := 205) rfl)⟩, fun _ => ⟨(List.mem_of_getElem? (i := 204) rfl), (List.mem_of_getElem? (i := 206) rfl)⟩, fun h => absurd h (by decide), fun h => absurd h (by decide)⟩
theorem cal18 : CalOk (pj lw) tables_1 "ChemBalancer" nm bt 18 := ⟨(List.mem_of_getElem? (i := 202) rfl), (List.mem_of_getElem? (i := 2) rfl), ⟨[.int], some .boolean, by decide +kernel, rfl⟩, fun h => absurd h (by decide), fun _ => ⟨rfl, (List.mem_of_getElem? (i := 200) rfl)⟩, fun h => absurd h (by decide), fun _ => (List.mem_of_getElem? (i := 201) rfl), fun h => absurd h (by decide)⟩
theorem cal20 : CalOk (pj lw) tables_1 "ChemBalancer" nm bt 20 := ⟨(List.mem_of_getElem? (i := 61) rfl), (List.mem_of_getElem? (i := 2) rfl), ⟨[.int], some .boolean, by decide +kernel, rfl⟩, fun h => absurd h (by decide), fun _ => ⟨rfl, (List.mem_of_getElem? (i := 59) rfl)⟩, fun h => absurd h (by decide), fun _ => (List.mem_of_getElem? (i := 60) rfl), fun h => absurd h (by decide)⟩
theorem cal21 : CalOk (pj lw) tables_1 "ChemBalancer" nm bt 21 := ⟨(List.mem_of_getElem? (i := 65) rfl), (List.mem_of_getElem? (i := 2) rfl), ⟨[.int], some .boolean, by decide +kernel, rfl⟩, fun h => absurd h (by decide), fun _ => ⟨rfl, (List.mem_of_getElem? (i := 63) rfl)⟩, fun h => absurd h (by decide), fun _ => (List.mem_of_getElem? (i := 64) rfl), fun h => absurd h (by decide)⟩
theorem cal22 : CalOk (pj lw) tables_1 "ChemBalancer" nm bt 22 := ⟨(List.mem_of_getElem? (i := 69) rfl), (List.mem_of_getElem? (i := 2) rfl), ⟨[.int], some .boolean, by decide +kernel, rfl⟩, fun h => absurd h (by decide), fun _ => ⟨rfl, (List.mem_of_getElem? (i := 67) rfl)⟩, fun h => absurd h (by decide), fun _ => (List.mem_of_getElem? (i := 68) rfl), fun h => absurd h (by decide)⟩
theorem cal23 : CalOk (pj lw) tables_1 "ChemBalancer" nm bt 23 := ⟨(List.mem_of_getElem? (i := 57) rfl), (List.mem_of_getElem? (i := 2) rfl), ⟨[.int], some .boolean, by decide +kernel, rfl⟩, fun h => absurd h (by decide), fun _ => ⟨rfl, (List.mem_of_getElem? (i := 55) rfl)⟩, fun h => absurd h (by decide), fun _ => (List.mem_of_getElem? (i := 56) rfl), fun h => absurd h (by decide)⟩
theorem cal24 : CalOk (pj lw) tables_1 "ChemBalancer" nm bt 24 := ⟨(List.mem_of_getElem? (i := 78) rfl), (List.mem_of_getElem? (i := 2) rfl), ⟨[], some .boolean, by decide +kernel, rfl⟩, fun h => absurd h (by decide), fun _ => ⟨rfl, (List.mem_of_getElem? (i := 76) rfl)⟩, fun h => absurd h (by decide), fun _ => (List.mem_of_getElem? (i := 77) rfl), fun h => absurd h (by decide)⟩
theorem cal25 : CalOk (pj lw) tables_1 "ChemBalancer" nm bt 25 := ⟨(List.mem_of_getElem? (i := 88) rfl), (List.mem_of_getElem? (i := 2) rfl), ⟨[.int], some .int, by decide +kernel, rfl⟩, fun h => absurd h (by decide), fun _ => ⟨rfl, (List.mem_of_getElem? (i := 86) rfl)⟩, fun h => absurd h (by decide), fun _ => (List.mem_of_getElem? (i := 87) rfl), fun h => absurd h (by decide)⟩
theorem cal26 : CalOk (pj lw) tables_1 "ChemBalancer" nm bt 26 := ⟨(List.mem_of_getElem? (i := 92) rfl), (List.mem_of_getElem? (i := 2) rfl), ⟨[.int], none, by decide +kernel, rfl⟩, fun h => absurd h (by decide), fun _ => ⟨rfl, (List.mem_of_getElem? (i := 90) rfl)⟩, fun h => absurd h (by decide), fun _ => (List.mem_of_getElem? (i := 91) rfl), fun h => absurd h (by decide)⟩
theorem cal27 : CalOk (pj lw) tables_1 "ChemBalancer" nm bt 27 := ⟨(List.mem_of_getElem? (i := 96) rfl), (List.mem_of_getElem? (i := 2) rfl), ⟨[.int], some .int, by decide +kernel, rfl⟩, fun h => absurd h (by decide), fun _ => ⟨rfl, (List.mem_of_getElem? (i := 94) rfl)⟩, fun h => absurd h (by decide), fun _ => (List.mem_of_getElem? (i := 95) rfl), fun h => absurd h (by decide)⟩
theorem cal29 : CalOk (pj lw) tables_1 "ChemBalancer" nm bt 29 := ⟨(List.mem_of_getElem? (i := 106) rfl), (List.mem_of_getElem? (i := 2) rfl), ⟨[], none, by decide +kernel, rfl⟩, fun h => absurd h (by decide), fun _ => ⟨rfl, (List.mem_of_getElem? (i := 104) rfl)⟩, fun h => absurd h (by decide), fun _ => (List.mem_of_getElem? (i := 105) rfl), fun h => absurd h (by decide)⟩
theorem cal30 : CalOk (pj lw) tables_1 "ChemBalancer" nm bt 30 := ⟨(List.mem_of_getElem? (i := 110) rfl), (List.mem_of_getElem? (i := 2) rfl), ⟨[.int, .int], some .int, by decide +kernel, rfl⟩, fun h => absurd h (by decide), fun _ => ⟨rfl, (List.mem_of_getElem? (i := 108) rfl)⟩, fun h => absurd h (by decide), fun _ => (List.mem_of_getElem? (i := 109) rfl), fun h => absurd h (by decide)⟩
theorem cal33 : CalOk (pj lw) tables_1 "ChemBalancer" nm bt 33 := ⟨(List.mem_of_getElem? (i := 124) rfl), (List.mem_of_getElem? (i := 2) rfl), ⟨[.int, .long], none, by decide +kernel, rfl⟩, fun h => absurd h (by decide), fun _ => ⟨rfl, (List.mem_of_getElem? (i := 122) rfl)⟩, fun h => absurd h (by decide), fun _ => (List.mem_of_getElem? (i := 123) rfl), fun h => absurd h (by decide)⟩
theorem cal34 : CalOk (pj lw) tables_1 "ChemBalancer" nm bt 34 := ⟨(List.mem_of_getElem? (i := 118) rfl), (List.mem_of_getElem? (i := 2) rfl), ⟨[.int], some .int, by decide +kernel, rfl⟩, fun h => absurd h (by decide), fun _ => ⟨rfl, (List.mem_of_getElem? (i := 116) rfl)⟩, fun h => absurd h (by decide), fun _ => (List.mem_of_getElem? (i := 117) rfl), fun h => absurd h (by decide)⟩
theorem cal35 : CalOk (pj lw) tables_1 "ChemBalancer" nm bt 35 := ⟨(List.mem_of_getElem? (i := 114) rfl), (List.mem_of_getElem? (i := 2) rfl), ⟨[.int], some .int, by decide +kernel, rfl⟩, fun h => absurd h (by decide), fun _ => ⟨rfl, (List.mem_of_getElem? (i := 112) rfl)⟩, fun h => absurd h (by decide), fun _ => (List.mem_of_getElem? (i := 113) rfl), fun h => absurd h (by decide)⟩
theorem cal36 : CalOk (pj lw) tables_1 "ChemBalancer" nm bt 36 := ⟨(List.mem_of_getElem? (i := 128) rfl), (List.mem_of_getElem? (i := 2) rfl), ⟨[], some .boolean, by decide +kernel, rfl⟩, fun h => absurd h (by decide), fun _ => ⟨rfl, (List.mem_of_getElem? (i := 126) rfl)⟩, fun h => absurd h (by decide), fun _ => (List.mem_of_getElem? (i := 127) rfl), fun h => absurd h (by decide)⟩
theorem cal37 : CalOk (pj lw) tables_1 "ChemBalancer" nm bt 37 := ⟨(List.mem_of_getElem? (i := 133) rfl), (List.mem_of_getElem? (i := 2) rfl), ⟨[], none, by decide +kernel, rfl⟩, fun h => absurd h (by decide), fun _ => ⟨rfl, (List.mem_of_getElem? (i := 131) rfl)⟩, fun h => absurd h (by decide), fun _ => (List.mem_of_getElem? (i := 132) rfl), fun h => absurd h (by decide)⟩
theorem cal38 : CalOk (pj lw) tables_1 "ChemBalancer" nm bt 38 := ⟨(List.mem_of_getElem? (i := 137) rfl), (List.mem_of_getElem? (i := 2) rfl), ⟨[.int, .int], some .int, by decide +kernel, rfl⟩, fun h => absurd h (by decide), fun _ => ⟨rfl, (List.mem_of_getElem? (i := 135) rfl)⟩, fun h => absurd h (by decide), fun _ => (List.mem_of_getElem? (i := 136) rfl), fun h => absurd h (by decide)⟩
theorem cal39 : CalOk (pj lw) tables_1 "ChemBalancer" nm bt 39 := ⟨(List.mem_of_getElem? (i := 145) rfl), (List.mem_of_getElem? (i := 2) rfl), ⟨[.int, .int, .int], some .int, by decide +kernel, rfl⟩, fun h => absurd h (by decide), fun _ => ⟨rfl, (List.mem_of_getElem? (i := 143) rfl)⟩, fun h => absurd h (by decide), fun _ => (List.mem_of_getElem? (i := 144) rfl), fun h => absurd h (by decide)⟩
theorem cal41 : CalOk (pj lw) tables_1 "ChemBalancer" nm bt 41 := ⟨(List.mem_of_getElem? (i := 149) rfl), (List.mem_of_getElem? (i := 2) rfl), ⟨[.int, .int, .int, .long, .long], none, by decide +kernel, rfl⟩, fun h => absurd h (by decide), fun _ => ⟨rfl, (List.mem_of_getElem? (i := 147) rfl)⟩, fun h => absurd h (by decide), fun _ => (List.mem_of_getElem? (i := 148) rfl), fun h => absurd h (by decide)⟩
theorem cal42 : CalOk (pj lw) tables_1 "ChemBalancer" nm bt 42 := ⟨(List.mem_of_getElem? (i := 153) rfl), (List.mem_of_getElem? (i := 2) rfl), ⟨[.int], some .boolean, by decide +kernel, rfl⟩, fun h => absurd h (by decide), fun _ => ⟨rfl, (List.mem_of_getElem? (i := 151) rfl)⟩, fun h => absurd h (by decide), fun _ => (List.mem_of_getElem? (i := 152) rfl), fun h => absurd h (by decide)⟩
theorem cal43 : CalOk (pj lw) tables_1 "ChemBalancer" nm bt 43 := ⟨(List.mem_of_getElem? (i := 157) rfl), (List.mem_of_getElem? (i := 2) rfl), ⟨[.int, .int], some .long, by decide +kernel, rfl⟩, fun h => absurd h (by decide), fun _ => ⟨rfl, (List.mem_of_getElem? (i := 155) rfl)⟩, fun h => absurd h (by decide), fun _ => (List.mem_of_getElem? (i := 156) rfl), fun h => absurd h (by decide)⟩
theorem cal44 : CalOk (pj lw) tables_1 "ChemBalancer" nm bt 44 := ⟨(List.mem_of_getElem? (i := 161) rfl), (List.mem_of_getElem? (i := 2) rfl), ⟨[.int, .int], none, by decide +kernel, rfl⟩, fun h => absurd h (by decide), fun _ => ⟨rfl, (List.mem_of_getElem? (i := 159) rfl)⟩, fun h => absurd h (by decide), fun _ => (List.mem_of_getElem? (i := 160) rfl), fun h => absurd h (by decide)⟩
theorem cal45 : CalOk (pj lw) tables_1 "ChemBalancer" nm bt 45 := ⟨(List.mem_of_getElem? (i := 165) rfl), (List.mem_of_getElem? (i := 2) rfl), ⟨[], some .boolean, by decide +kernel, rfl⟩, fun h => absurd h (by decide), fun _ => ⟨rfl, (List.mem_of_getElem? (i := 163) rfl)⟩, fun h => absurd h (by decide), fun _ => (List.mem_of_getElem? (i := 164) rfl), fun h => absurd h (by decide)⟩
theorem cal46 : CalOk (pj lw) tables_1 "ChemBalancer" nm bt 46 := ⟨(List.mem_of_getElem? (i := 169) rfl), (List.mem_of_getElem? (i := 2) rfl), ⟨[.long, .long], some .long, by decide +kernel, rfl⟩, fun h => absurd h (by decide), fun _ => ⟨rfl, (List.mem_of_getElem? (i := 167) rfl)⟩, fun h => absurd h (by decide), fun _ => (List.mem_of_getElem? (i := 168) rfl), fun h => absurd h (by decide)⟩
theorem cal102 : CalOk (pj lw) tables_1 "ChemBalancer" nm bt 102 := ⟨(List.mem_of_getElem? (i := 173) rfl), (List.mem_of_getElem? (i := 172) rfl), ⟨[.int, .int], some .int, by decide +kernel, rfl⟩, fun _ => (List.mem_of_getElem? (i := 171) rfl), fun h => absurd rfl h, fun h => absurd h (by decide), fun h => absurd h (by decide), fun h => absurd h (by decide)⟩
theorem hcal : ∀ m ∈ RL, m ≠ 100 → CalOk (pj lw) tables_1 "ChemBalancer" nm bt m := (faS (fun _ => cal1) (faS (fun _ => cal2) (faS (fun _ => cal6) (faS (fun _ => cal7) (faS (fun _ => cal8) (faS (fun _ => cal9) (faS (fun _ => cal10) (faS (fun _ => cal11) (faS (fun _ => cal13) (faS (fun _ => cal18) (faS (fun _ => cal20) (faS (fun _ => cal21) (faS (fun _ => cal22) (faS (fun _ => cal23) (faS (fun _ => cal24) (faS (fun _ => cal25) (faS (fun _ => cal26) (faS (fun _ => cal27) (faS (fun _ => cal29) (faS (fun _ => cal30) (faS (fun _ => cal33) (faS (fun _ => cal34) (faS (fun _ => cal35) (faS (fun _ => cal36) (faS (fun _ => cal37) (faS (fun _ => cal38) (faS (fun _ => cal39) (faS (fun _ => cal41) (faS (fun _ => cal42) (faS (fun _ => cal43) (faS (fun _ => cal44) (faS (fun _ => cal45) (faS (fun _ => cal46) (faS (fun h => absurd rfl h) (faS (fun _ => cal102) fa0)))))))))))))))))))))))))))))))))))
theorem hfld : ∀ k ∈ FS, parseFieldDescriptor (fn k).2 = some ((pj lw).2.2.1 k) ∧ (Jvm.Cond.lays "ChemBalancer" "ChemBalancer" (fn k).1 (fn k).2 ∈ tables_1 ∨ Jvm.Cond.laysFinal "ChemBalancer" "ChemBalancer" (fn k).1 (fn k).2 ∈ tables_1) := (faS ⟨by decide +kernel, Or.inl (List.mem_of_getElem? (i := 42) rfl)⟩ (faS ⟨by decide +kernel, Or.inl (List.mem_of_getElem? (i := 44) rfl)⟩ (faS ⟨by decide +kernel, Or.inr (List.mem_of_getElem? (i := 11) rfl)⟩ (faS ⟨by decide +kernel, Or.inl (List.mem_of_getElem? (i := 46) rfl)⟩ (faS ⟨by decide +kernel, Or.inr (List.mem_of_getElem? (i := 13) rfl)⟩ (faS ⟨by decide +kernel, Or.inr (List.mem_of_getElem? (i := 15) rfl)⟩ (faS ⟨by decide +kernel, Or.inl (List.mem_of_getElem? (i := 80) rfl)⟩ (faS ⟨by decide +kernel, Or.inl (List.mem_of_getElem? (i := 82) rfl)⟩ (faS ⟨by decide +kernel, Or.inl (List.mem_of_getElem? (i := 84) rfl)⟩ (faS ⟨by decide +kernel, Or.inl (List.mem_of_getElem? (i := 120) rfl)⟩ (faS ⟨by decide +kernel, Or.inl (List.mem_of_getElem? (i := 48) rfl)⟩ (faS ⟨by decide +kernel, Or.inl (List.mem_of_getElem? (i := 98) rfl)⟩ (faS ⟨by decide +kernel, Or.inl (List.mem_of_getElem? (i := 100) rfl)⟩ (faS ⟨by decide +kernel, Or.inl (List.mem_of_getElem? (i := 102) rfl)⟩ (faS ⟨by decide +kernel, Or.inr (List.mem_of_getElem? (i := 17) rfl)⟩ (faS ⟨by decide +kernel, Or.inr (List.mem_of_getElem? (i := 19) rfl)⟩ (faS ⟨by decide +kernel, Or.inr (List.mem_of_getElem? (i := 21) rfl)⟩ (faS ⟨by decide +kernel, Or.inr (List.mem_of_getElem? (i := 24) rfl)⟩ (faS ⟨by decide +kernel, Or.inr (List.mem_of_getElem? (i := 26) rfl)⟩ (faS ⟨by decide +kernel, Or.inr (List.mem_of_getElem? (i := 28) rfl)⟩ (faS ⟨by decide +kernel, Or.inr (List.mem_of_getElem? (i := 30) rfl)⟩ (faS ⟨by decide +kernel, Or.inr (List.mem_of_getElem? (i := 32) rfl)⟩ (faS ⟨by decide +kernel, Or.inr (List.mem_of_getElem? (i := 34) rfl)⟩ (faS ⟨by decide +kernel, Or.inr (List.mem_of_getElem? (i := 36) rfl)⟩ (faS ⟨by decide +kernel, Or.inr (List.mem_of_getElem? (i := 38) rfl)⟩ (faS ⟨by decide +kernel, Or.inr (List.mem_of_getElem? (i := 40) rfl)⟩ (faS ⟨by decide +kernel, Or.inl (List.mem_of_getElem? (i := 139) rfl)⟩ (faS ⟨by decide +kernel, Or.inl (List.mem_of_getElem? (i := 141) rfl)⟩ fa0))))))))))))))))))))))))))))
theorem good : Good (pj lw) tables_1 "ChemBalancer" fn FS 28 nm bt RL 100 := by
  refine ⟨(List.mem_of_getElem? (i := 1) rfl), (List.mem_of_getElem? (i := 2) rfl), hfld, by decide +kernel, fun m hm => ?_, hcal, fun m _ pc ins len aux _ _ => by cases ins <;> rfl⟩
  have hpl : plainName "ChemBalancer" = true ∧ plainName "ChemBalancerL3" = true := ⟨by first | (simp [plainName, overriddenIn]; done) | decide +kernel, by first | (simp [plainName, overriddenIn]; done) | decide +kernel⟩
  have hcn : ∀ m ∈ RL, (nm m).cls = cn (own m) := by decide +kernel
  have hin : ∀ m ∈ RL, ini m = true → (nm m).cls = "ChemBalancer" ∧ (nm m).name = "<init>" := by decide +kernel
  have hor : (nm m).cls = "ChemBalancer" ∨ (nm m).cls = "ChemBalancerL3" := by rw [hcn m hm]; unfold cn; split <;> simp
  refine ⟨by rcases hor with h | h <;> rw [h] <;> simp [hpl], by rcases hor with h | h <;> rw [h] <;> decide, fun pc ins len aux h => ?_⟩
  have hmem : (pc, ins, len, aux) ∈ rowsOf m := by
    unfold rowsOf
    by_cases g : m < 100
    · rw [if_pos g]; exact lookup_mem (by simpa [pj, g] using h)
    · rw [if_neg g]; exact lookup_mem (by simpa [pj, lw, g] using h)
  have hrow := List.all_eq_true.mp (List.all_eq_true.mp hrows m hm) _ hmem
  simp only [rowOne, Bool.and_eq_true, decide_eq_true_eq] at hrow
  exact ⟨hrow.1.1, hrow.1.2, row_ok (hcn m hm) (hin m hm) hFL hWF hML hKI hKJ hAT (List.mem_of_getElem? (i := 0) rfl) ⟨(List.mem_of_getElem? (i := 6) rfl), (List.mem_of_getElem? (i := 7) rfl), (List.mem_of_getElem? (i := 8) rfl)⟩ hrow.2⟩
set_option maxRecDepth 65536 in
set_option maxHeartbeats 40000000 in
theorem comes_1 {Post : Tables → Env → Array Value → State → Outcome → State → Prop} (hpost : ∀ tb e args s v u, (limb_1_1.after args s (.returned v) u = true ∧ limb_1_2.after args s (.returned v) u = true ∧ True) → FrameEnd s (.returned v) u (Jvm.fieldLocs frame_1_writes args s ++ Jvm.arrayLocs frame_1_arrays args s ++ Jvm.staticLocs frame_1_statics s) 40 1152 → Post tb e args s (.returned v) u) :
    ArmFor flags0 classFile x code maxLocals ret World_1 tables_1 room_1 Calls_1 rest_1 Pre_1 Post := by
  intro l hfl _ _ p e ha hc hk s m args below hf hA hF happ hP
  obtain ⟨hcalls, hrest, hpre⟩ := hP
  obtain ⟨-, -, -, hnamed, -, -, -, hat⟩ := (Spec.applies_iff hf).mp happ
  obtain ⟨hg, hn⟩ := and_e (Cond.before_iff.mp (show (Jvm.Cond.and given_1 narrow_1).before args s = true from hpre))
  have hw := fun d (hd : d ∈ tables_1) => atoms_spec (ws := Jvm.Cond.code x code maxLocals ret :: tables_1) hat d (List.mem_cons_of_mem _ hd)
  obtain ⟨g0, r0⟩ := and_e hg
  obtain ⟨w0, w1, w2, w3, w4, w5, rfl⟩ : ∃ w0 w1 w2 w3 w4 w5 : Value, args = #[w0, w1, w2, w3, w4, w5] := by
    have hs : args.size = 6 := by simpa [Cond.value, given_1] using g0
    obtain ⟨L⟩ := args
    match L, hs with
    | [w0, w1, w2, w3, w4, w5], _ => exact ⟨w0, w1, w2, w3, w4, w5, rfl⟩
  obtain ⟨g1, r1⟩ := and_e r0
  obtain ⟨g2, r2⟩ := and_e r1
  obtain ⟨g3, r3⟩ := and_e r2
  obtain ⟨g4, r4⟩ := and_e r3
  obtain ⟨g5, r5⟩ := and_e r4
  have g6 := r5
  obtain ⟨i0, e0⟩ := is_v g1
  obtain rfl : w0 = (.int i0) := Option.some.inj e0
  obtain ⟨i1, e1⟩ := is_v g2
  obtain rfl : w1 = (.int i1) := Option.some.inj e1
  obtain ⟨i2, e2⟩ := is_v g3
  obtain rfl : w2 = (.int i2) := Option.some.inj e2
  obtain ⟨i3, e3⟩ := is_v g4
  obtain rfl : w3 = (.int i3) := Option.some.inj e3
  obtain ⟨i4, e4⟩ := is_v g5
  obtain rfl : w4 = (.int i4) := Option.some.inj e4
  obtain ⟨i5, e5⟩ := is_v g6
  obtain rfl : w5 = (.int i5) := Option.some.inj e5
  obtain ⟨n, o, h1, h2, h3, _, L, rfl, ⟨N, H2, rfl⟩, hq⟩ := law_met (l := l) (Z := s) (a0 := _) (n0 := s.heap.size) good hw (as := [.int i0, .int i1, .int i2, .int i3, .int i4, .int i5]) (h := s.heap) tables_1 (by decide) (by simp [Sym.laidSlots, Value.category]; decide) (rel_H0 s.heap) (law_ok i0 i1 i2 i3 i4 i5 s.heap.size) p e ha hc hk s m _ below hf ((Spec.applies_iff_loose hf).mp happ).1 ⟨rfl, State.Warmed39.refl s, rfl⟩ trivial
  exact ⟨n, _, h1, h2, h3, hpost _ _ _ _ _ _ ⟨Cond.after_iff.mpr rfl, Cond.after_iff.mpr (eq_i res_at (Term.int_eval (1)) rfl), trivial⟩ ⟨hq.1, hq.2.1, (hq.2.2.sift fun y hy => Or.inr (N y hy)).mono (by decide) (by decide)⟩⟩
theorem main_1_1 : Claimed_1_1 := comes_1 fun _ _ _ _ _ _ h hF => ⟨h.1, hF⟩
theorem main_1_2 : Claimed_1_2 := comes_1 fun _ _ _ _ _ _ h hF => ⟨h.2.1, hF⟩
end Jvm.Pilot.@@N@@
namespace Jvm.Pilot.@@N@@
open Jvm Jvm.ClassFile Sem Op Lib Jvm.Free Jvm.Stand Jvm.Pilot.@@N@@.Jvm.D
/-! MADE BY PROGRAM (witnessworld.py) out of the Statement's table words and the real class files: 11 classes; the members and pool entries that the words name. The judged class is class 1, her method 2. -/
namespace start1
open Jvm.ClassFile
def u (s : String) : CpInfo := .utf8 (stringToUtf16 s)
/-- a pool by its gaps: so many unusable entries, then the entry; so many at the end -/
def gap : Nat → List CpInfo → List CpInfo
  | 0, r => r
  | n + 1, r => .unusable :: gap n r
def poolList (es : List (Nat × CpInfo)) (last : Nat) : List CpInfo := es.foldr (fun e r => gap e.1 (e.2 :: r)) (gap last [])
def pool (es : List (Nat × CpInfo)) (last : Nat) : Array CpInfo := ⟨poolList es last⟩
def fileOf (pool : Array CpInfo) (this : Nat) (attrs : Array Attribute := #[]) (ms : Array MethodInfo := #[]) (fl : Nat := 33) (sup : Nat := 0) (ifs : Array Nat := #[]) (fds : Array FieldInfo := #[]) : ClassFile where
  minorVersion := 0
  majorVersion := 65
  constantPool := pool
  accessFlags := fl
  thisClass := this
  superClass := sup
  interfaces := ifs
  fields := fds
  methods := ms
  attributes := attrs
def plain (name : String) (sup : Option ClassId) : Class where
  name := name
  kind := .ordinary
  loader := none
  accessFlags := 33
  super := sup
  interfaces := #[]
  cf := none
  fields := #[]
  methods := #[]
  instanceTypes := #[]
  staticTypes := #[]
  resolved := #[]
  callSites := []
  init := .initialized
  statics := none
  mirror := none

def pool0 : Array CpInfo := pool [(5, u "<init>"), (0, u "()V"), (1, .class_ 10), (1, u "java/lang/Object")] 113

def k0c0 : Code := { maxStack := 0, maxLocals := 1, code := object_method_1_code, exceptionTable := #[], attributes := #[] }
def k0m0 : Method := { name := "<init>", desc := "()V", sig := { parameters := [], returnType := none }, accessFlags := 1, code := some k0c0 }
/-- java/lang/Object -/
def k0 : Class := { plain "java/lang/Object" none with
  accessFlags := 33
  interfaces := #[]
  cf := some (fileOf pool0 8 #[] #[{ accessFlags := 1, nameIndex := 5, descriptorIndex := 6, attributes := #[] }] 33 0 #[] #[])
  fields := #[]
  methods := #[k0m0]
  instanceTypes := #[]
  staticTypes := #[]
  resolved := Array.replicate 124 none
  statics := none }

def pool1 : Array CpInfo := pool [(2, .class_ 4), (1, u "java/lang/Object"), (0, u "<init>"), (0, u "()V"), (0, .class_ 8), (0, u "ChemBalancer"), (0, .methodref 7 10), (0, .nameAndType 5 11), (0, u "(II)V"), (0, .methodref 7 13), (0, .nameAndType 14 15), (0, u "feed"), (0, u "(I)Z"), (0, .methodref 7 17), (0, .nameAndType 18 19), (0, u "balance"), (0, u "()I"), (0, .methodref 21 22), (0, .class_ 23), (0, .nameAndType 24 25), (0, u "ChemBalancerL3"), (0, u "gcd"), (0, u "(II)I"), (0, .methodref 7 27), (0, .nameAndType 28 19), (0, u "getSpeciesCount"), (0, .methodref 7 30), (0, .nameAndType 31 19), (0, u "getLeftCount"), (0, .methodref 7 33), (0, .nameAndType 34 19), (0, u "getElementCount"), (0, .methodref 7 36), (0, .nameAndType 37 38), (0, u "getElementCode"), (0, u "(I)I"), (0, .methodref 7 40), (0, .nameAndType 41 25), (0, u "getCount"), (0, .methodref 7 43), (0, .nameAndType 44 45), (0, u "getCoefficient"), (0, u "(I)J"), (3, u "law"), (0, u "(IIIIII)Z")] 2

def k1m0 : Method := { name := "<init>", desc := "()V", sig := { parameters := [], returnType := none }, accessFlags := 1, code := none }
def k1c1 : Code := { maxStack := 2, maxLocals := 4, code := method_2_code, exceptionTable := #[], attributes := #[] }
def k1m1 : Method := { name := "gcd", desc := "(II)I", sig := { parameters := [.int, .int], returnType := some .int }, accessFlags := 10, code := some k1c1 }
def k1c2 : Code := { maxStack := 4, maxLocals := 44, code := code, exceptionTable := #[], attributes := #[] }
def k1m2 : Method := { name := "law", desc := "(IIIIII)Z", sig := { parameters := [.int, .int, .int, .int, .int, .int], returnType := some .boolean }, accessFlags := 9, code := some k1c2 }
/-- ChemBalancerL3 -/
def k1 : Class := { plain "ChemBalancerL3" (some 0) with
  accessFlags := 49
  interfaces := #[]
  cf := some (fileOf pool1 21 #[] #[{ accessFlags := 1, nameIndex := 5, descriptorIndex := 6, attributes := #[] }, { accessFlags := 10, nameIndex := 24, descriptorIndex := 25, attributes := #[] }, { accessFlags := 9, nameIndex := 49, descriptorIndex := 50, attributes := #[] }] 49 2 #[] #[])
  fields := #[]
  methods := #[k1m0, k1m1, k1m2]
  instanceTypes := #[]
  staticTypes := #[]
  resolved := Array.replicate 53 none
  statics := none }

def pool2 : Array CpInfo := pool [(1, .methodref 2 3), (0, .class_ 4), (0, .nameAndType 5 6), (0, u "java/lang/Object"), (0, u "<init>"), (0, u "()V"), (0, .fieldref 8 9), (0, .class_ 10), (0, .nameAndType 11 12), (0, u "ChemBalancer"), (0, u "buf"), (0, u "[I"), (0, .fieldref 8 14), (0, .nameAndType 15 12), (0, u "openStack"), (0, .fieldref 8 17), (0, .nameAndType 18 12), (0, u "seenCodes"), (0, .fieldref 8 20), (0, .nameAndType 21 12), (0, u "elemCode"), (0, .fieldref 8 23), (0, .nameAndType 24 12), (0, u "count"), (0, .fieldref 8 26), (0, .nameAndType 27 12), (0, u "charge"), (0, .fieldref 8 29), (0, .nameAndType 30 31), (0, u "coef"), (0, u "[J"), (0, .fieldref 8 33), (0, .nameAndType 34 31), (0, u "amount"), (0, .fieldref 8 36), (0, .nameAndType 37 31), (0, u "cnt"), (0, .fieldref 8 39), (0, .nameAndType 40 31), (0, u "acc"), (0, .fieldref 8 42), (0, .nameAndType 43 31), (0, u "mat"), (0, .fieldref 8 45), (0, .nameAndType 46 31), (0, u "work"), (0, .fieldref 8 48), (0, .nameAndType 49 12), (0, u "perm"), (0, .fieldref 8 51), (0, .nameAndType 52 12), (0, u "sel"), (0, .fieldref 8 54), (0, .nameAndType 55 31), (0, u "vec"), (0, .fieldref 8 57), (0, .nameAndType 58 59), (0, u "maxSpecies"), (0, u "I"), (0, .fieldref 8 61), (0, .nameAndType 62 59), (0, u "maxElements"), (0, .fieldref 8 64), (0, .nameAndType 65 59), (0, u "len"), (0, .fieldref 8 67), (0, .nameAndType 68 69), (0, u "present"), (0, u "Z"), (0, .methodref 8 71), (0, .nameAndType 72 73), (0, u "isAccepted"), (0, u "(I)Z"), (0, .methodref 8 75), (0, .nameAndType 76 77), (0, u "validate"), (0, u "()Z"), (0, .fieldref 8 79), (0, .nameAndType 80 59), (0, u "parsedSpecies"), (0, .fieldref 8 82), (0, .nameAndType 83 59), (0, u "seenCount"), (0, .fieldref 8 85), (0, .nameAndType 86 59), (0, u "n"), (0, .fieldref 8 88), (0, .nameAndType 89 59), (0, u "parsedLeft"), (0, .fieldref 8 91), (0, .nameAndType 92 59), (0, u "left"), (0, .fieldref 8 94), (0, .nameAndType 95 59), (0, u "elems"), (0, .methodref 8 97), (0, .nameAndType 98 6), (0, u "computeCounts"), (0, .methodref 8 100), (0, .nameAndType 101 77), (0, u "countsFit"), (0, .methodref 8 103), (0, .nameAndType 104 6), (0, u "buildMatrix"), (0, .methodref 8 106), (0, .nameAndType 107 108), (0, u "eliminate"), (0, u "(II)I"), (0, .methodref 8 110), (0, .nameAndType 111 73), (0, u "solveNullVector"), (0, .methodref 8 113), (0, .nameAndType 114 73), (0, u "validSpecies"), (6, u "(I)J"), (0, .methodref 8 123), (0, .nameAndType 124 73), (0, u "isUpper"), (0, .methodref 8 126), (0, .nameAndType 127 73), (0, u "isLower"), (0, .methodref 8 129), (0, .nameAndType 130 73), (0, u "isDigit"), (0, .methodref 8 132), (0, .nameAndType 133 134), (0, u "scanAtom"), (0, u "(I)I"), (0, .methodref 8 136), (0, .nameAndType 137 134), (0, u "numberEnd"), (3, .methodref 8 142), (0, .nameAndType 143 144), (0, u "noteElement"), (0, u "(I)V"), (0, .methodref 8 146), (0, .nameAndType 147 108), (0, u "addAtom"), (3, .methodref 8 152), (0, .nameAndType 153 154), (0, u "foldHunit"), (0, u "(IJ)V"), (0, .methodref 8 156), (0, .nameAndType 157 134), (0, u "readNumber"), (0, .fieldref 8 159), (0, .nameAndType 160 59), (0, u "numEnd"), (3, .methodref 8 165), (0, .nameAndType 166 134), (0, u "elemIndex"), (0, .long 24), (1, .fieldref 8 170), (0, .nameAndType 171 59), (0, u "swapSign"), (0, .fieldref 8 173), (0, .nameAndType 174 175), (0, u "lastPivot"), (0, u "J"), (0, .methodref 8 177), (0, .nameAndType 178 179), (0, u "findPivot"), (0, u "(III)I"), (3, u "(II)V"), (0, .methodref 8 185), (0, .nameAndType 186 187), (0, u "reduceRow"), (0, u "(IIIJJ)V"), (0, .methodref 8 189), (0, .nameAndType 190 191), (0, u "signedMinor"), (0, u "(II)J"), (0, .methodref 8 193), (0, .nameAndType 194 77), (0, u "normalize"), (0, .methodref 8 196), (0, .nameAndType 197 183), (0, u "loadMinor"), (0, .methodref 8 199), (0, .nameAndType 200 201), (0, u "gcd"), (0, u "(JJ)J"), (0, .long 18446744073709551615), (1, u "OK"), (2, u "SYNTAX"), (1, u "TOO_MANY_SPECIES"), (1, u "TOO_MANY_ELEMENTS"), (1, u "COUNT_TOO_BIG"), (1, u "MANY_SOLUTIONS"), (1, u "NO_SOLUTION"), (1, u "BUFFER_CAPACITY"), (1, u "MAX_COUNT"), (1, u "MAX_AMOUNT"), (0, u "MAX_EVENTS"), (3, u "feed"), (2, u "()I"), (1, u "balance"), (1, u "getSpeciesCount"), (0, u "getLeftCount"), (0, u "getElementCount"), (0, u "getElementCode"), (0, u "getCount"), (1, u "getCoefficient")] 7

def k2c0 : Code := { maxStack := 2, maxLocals := 5, code := prog_1_method_1_code, exceptionTable := #[], attributes := #[] }
def k2m0 : Method := { name := "<init>", desc := "(II)V", sig := { parameters := [.int, .int], returnType := none }, accessFlags := 1, code := some k2c0 }
def k2c1 : Code := { maxStack := 3, maxLocals := 2, code := prog_1_method_2_code, exceptionTable := #[], attributes := #[] }
def k2m1 : Method := { name := "feed", desc := "(I)Z", sig := { parameters := [.int], returnType := some .boolean }, accessFlags := 1, code := some k2c1 }
def k2c2 : Code := { maxStack := 4, maxLocals := 4, code := prog_1_method_6_code, exceptionTable := #[], attributes := #[] }
def k2m2 : Method := { name := "balance", desc := "()I", sig := { parameters := [], returnType := some .int }, accessFlags := 1, code := some k2c2 }
def k2c3 : Code := { maxStack := 1, maxLocals := 1, code := prog_1_method_7_code, exceptionTable := #[], attributes := #[] }
def k2m3 : Method := { name := "getSpeciesCount", desc := "()I", sig := { parameters := [], returnType := some .int }, accessFlags := 1, code := some k2c3 }
def k2c4 : Code := { maxStack := 1, maxLocals := 1, code := prog_1_method_8_code, exceptionTable := #[], attributes := #[] }
def k2m4 : Method := { name := "getLeftCount", desc := "()I", sig := { parameters := [], returnType := some .int }, accessFlags := 1, code := some k2c4 }
def k2c5 : Code := { maxStack := 1, maxLocals := 1, code := prog_1_method_9_code, exceptionTable := #[], attributes := #[] }
def k2m5 : Method := { name := "getElementCount", desc := "()I", sig := { parameters := [], returnType := some .int }, accessFlags := 1, code := some k2c5 }
def k2c6 : Code := { maxStack := 2, maxLocals := 2, code := prog_1_method_10_code, exceptionTable := #[], attributes := #[] }
def k2m6 : Method := { name := "getElementCode", desc := "(I)I", sig := { parameters := [.int], returnType := some .int }, accessFlags := 1, code := some k2c6 }
def k2c7 : Code := { maxStack := 3, maxLocals := 3, code := prog_1_method_11_code, exceptionTable := #[], attributes := #[] }
def k2m7 : Method := { name := "getCount", desc := "(II)I", sig := { parameters := [.int, .int], returnType := some .int }, accessFlags := 1, code := some k2c7 }
def k2c8 : Code := { maxStack := 2, maxLocals := 2, code := prog_1_method_13_code, exceptionTable := #[], attributes := #[] }
def k2m8 : Method := { name := "getCoefficient", desc := "(I)J", sig := { parameters := [.int], returnType := some .long }, accessFlags := 1, code := some k2c8 }
def k2c9 : Code := { maxStack := 2, maxLocals := 2, code := prog_1_method_18_code, exceptionTable := #[], attributes := #[] }
def k2m9 : Method := { name := "validSpecies", desc := "(I)Z", sig := { parameters := [.int], returnType := some .boolean }, accessFlags := 2, code := some k2c9 }
def k2c10 : Code := { maxStack := 2, maxLocals := 2, code := prog_1_method_20_code, exceptionTable := #[], attributes := #[] }
def k2m10 : Method := { name := "isUpper", desc := "(I)Z", sig := { parameters := [.int], returnType := some .boolean }, accessFlags := 2, code := some k2c10 }
def k2c11 : Code := { maxStack := 2, maxLocals := 2, code := prog_1_method_21_code, exceptionTable := #[], attributes := #[] }
def k2m11 : Method := { name := "isLower", desc := "(I)Z", sig := { parameters := [.int], returnType := some .boolean }, accessFlags := 2, code := some k2c11 }
def k2c12 : Code := { maxStack := 2, maxLocals := 2, code := prog_1_method_22_code, exceptionTable := #[], attributes := #[] }
def k2m12 : Method := { name := "isDigit", desc := "(I)Z", sig := { parameters := [.int], returnType := some .boolean }, accessFlags := 2, code := some k2c12 }
def k2c13 : Code := { maxStack := 2, maxLocals := 2, code := prog_1_method_23_code, exceptionTable := #[], attributes := #[] }
def k2m13 : Method := { name := "isAccepted", desc := "(I)Z", sig := { parameters := [.int], returnType := some .boolean }, accessFlags := 2, code := some k2c13 }
def k2c14 : Code := { maxStack := 3, maxLocals := 8, code := prog_1_method_24_code, exceptionTable := #[], attributes := #[] }
def k2m14 : Method := { name := "validate", desc := "()Z", sig := { parameters := [], returnType := some .boolean }, accessFlags := 2, code := some k2c14 }
def k2c15 : Code := { maxStack := 3, maxLocals := 4, code := prog_1_method_25_code, exceptionTable := #[], attributes := #[] }
def k2m15 : Method := { name := "scanAtom", desc := "(I)I", sig := { parameters := [.int], returnType := some .int }, accessFlags := 2, code := some k2c15 }
def k2c16 : Code := { maxStack := 3, maxLocals := 3, code := prog_1_method_26_code, exceptionTable := #[], attributes := #[] }
def k2m16 : Method := { name := "noteElement", desc := "(I)V", sig := { parameters := [.int], returnType := none }, accessFlags := 2, code := some k2c16 }
def k2c17 : Code := { maxStack := 4, maxLocals := 2, code := prog_1_method_27_code, exceptionTable := #[], attributes := #[] }
def k2m17 : Method := { name := "numberEnd", desc := "(I)I", sig := { parameters := [.int], returnType := some .int }, accessFlags := 2, code := some k2c17 }
def k2c18 : Code := { maxStack := 4, maxLocals := 8, code := prog_1_method_29_code, exceptionTable := #[], attributes := #[] }
def k2m18 : Method := { name := "computeCounts", desc := "()V", sig := { parameters := [], returnType := none }, accessFlags := 2, code := some k2c18 }
def k2c19 : Code := { maxStack := 6, maxLocals := 7, code := prog_1_method_30_code, exceptionTable := #[], attributes := #[] }
def k2m19 : Method := { name := "addAtom", desc := "(II)I", sig := { parameters := [.int, .int], returnType := some .int }, accessFlags := 2, code := some k2c19 }
def k2c20 : Code := { maxStack := 8, maxLocals := 5, code := prog_1_method_33_code, exceptionTable := #[], attributes := #[] }
def k2m20 : Method := { name := "foldHunit", desc := "(IJ)V", sig := { parameters := [.int, .long], returnType := none }, accessFlags := 2, code := some k2c20 }
def k2c21 : Code := { maxStack := 3, maxLocals := 4, code := prog_1_method_34_code, exceptionTable := #[], attributes := #[] }
def k2m21 : Method := { name := "readNumber", desc := "(I)I", sig := { parameters := [.int], returnType := some .int }, accessFlags := 2, code := some k2c21 }
def k2c22 : Code := { maxStack := 2, maxLocals := 3, code := prog_1_method_35_code, exceptionTable := #[], attributes := #[] }
def k2m22 : Method := { name := "elemIndex", desc := "(I)I", sig := { parameters := [.int], returnType := some .int }, accessFlags := 2, code := some k2c22 }
def k2c23 : Code := { maxStack := 4, maxLocals := 5, code := prog_1_method_36_code, exceptionTable := #[], attributes := #[] }
def k2m23 : Method := { name := "countsFit", desc := "()Z", sig := { parameters := [], returnType := some .boolean }, accessFlags := 2, code := some k2c23 }
def k2c24 : Code := { maxStack := 4, maxLocals := 5, code := prog_1_method_37_code, exceptionTable := #[], attributes := #[] }
def k2m24 : Method := { name := "buildMatrix", desc := "()V", sig := { parameters := [], returnType := none }, accessFlags := 2, code := some k2c24 }
def k2c25 : Code := { maxStack := 8, maxLocals := 11, code := prog_1_method_38_code, exceptionTable := #[], attributes := #[] }
def k2m25 : Method := { name := "eliminate", desc := "(II)I", sig := { parameters := [.int, .int], returnType := some .int }, accessFlags := 2, code := some k2c25 }
def k2c26 : Code := { maxStack := 4, maxLocals := 5, code := prog_1_method_39_code, exceptionTable := #[], attributes := #[] }
def k2m26 : Method := { name := "findPivot", desc := "(III)I", sig := { parameters := [.int, .int, .int], returnType := some .int }, accessFlags := 2, code := some k2c26 }
def k2c27 : Code := { maxStack := 9, maxLocals := 11, code := prog_1_method_41_code, exceptionTable := #[], attributes := #[] }
def k2m27 : Method := { name := "reduceRow", desc := "(IIIJJ)V", sig := { parameters := [.int, .int, .int, .long, .long], returnType := none }, accessFlags := 2, code := some k2c27 }
def k2c28 : Code := { maxStack := 5, maxLocals := 3, code := prog_1_method_42_code, exceptionTable := #[], attributes := #[] }
def k2m28 : Method := { name := "solveNullVector", desc := "(I)Z", sig := { parameters := [.int], returnType := some .boolean }, accessFlags := 2, code := some k2c28 }
def k2c29 : Code := { maxStack := 4, maxLocals := 6, code := prog_1_method_43_code, exceptionTable := #[], attributes := #[] }
def k2m29 : Method := { name := "signedMinor", desc := "(II)J", sig := { parameters := [.int, .int], returnType := some .long }, accessFlags := 2, code := some k2c29 }
def k2c30 : Code := { maxStack := 5, maxLocals := 6, code := prog_1_method_44_code, exceptionTable := #[], attributes := #[] }
def k2m30 : Method := { name := "loadMinor", desc := "(II)V", sig := { parameters := [.int, .int], returnType := none }, accessFlags := 2, code := some k2c30 }
def k2c31 : Code := { maxStack := 6, maxLocals := 8, code := prog_1_method_45_code, exceptionTable := #[], attributes := #[] }
def k2m31 : Method := { name := "normalize", desc := "()Z", sig := { parameters := [], returnType := some .boolean }, accessFlags := 2, code := some k2c31 }
def k2c32 : Code := { maxStack := 4, maxLocals := 12, code := prog_1_method_46_code, exceptionTable := #[], attributes := #[] }
def k2m32 : Method := { name := "gcd", desc := "(JJ)J", sig := { parameters := [.long, .long], returnType := some .long }, accessFlags := 2, code := some k2c32 }
/-- ChemBalancer -/
def k2 : Class := { plain "ChemBalancer" (some 0) with
  accessFlags := 49
  interfaces := #[]
  cf := some (fileOf pool2 8 #[] #[{ accessFlags := 1, nameIndex := 5, descriptorIndex := 183, attributes := #[] }, { accessFlags := 1, nameIndex := 228, descriptorIndex := 73, attributes := #[] }, { accessFlags := 1, nameIndex := 233, descriptorIndex := 231, attributes := #[] }, { accessFlags := 1, nameIndex := 235, descriptorIndex := 231, attributes := #[] }, { accessFlags := 1, nameIndex := 236, descriptorIndex := 231, attributes := #[] }, { accessFlags := 1, nameIndex := 237, descriptorIndex := 231, attributes := #[] }, { accessFlags := 1, nameIndex := 238, descriptorIndex := 134, attributes := #[] }, { accessFlags := 1, nameIndex := 239, descriptorIndex := 108, attributes := #[] }, { accessFlags := 1, nameIndex := 241, descriptorIndex := 121, attributes := #[] }, { accessFlags := 2, nameIndex := 114, descriptorIndex := 73, attributes := #[] }, { accessFlags := 2, nameIndex := 124, descriptorIndex := 73, attributes := #[] }, { accessFlags := 2, nameIndex := 127, descriptorIndex := 73, attributes := #[] }, { accessFlags := 2, nameIndex := 130, descriptorIndex := 73, attributes := #[] }, { accessFlags := 2, nameIndex := 72, descriptorIndex := 73, attributes := #[] }, { accessFlags := 2, nameIndex := 76, descriptorIndex := 77, attributes := #[] }, { accessFlags := 2, nameIndex := 133, descriptorIndex := 134, attributes := #[] }, { accessFlags := 2, nameIndex := 143, descriptorIndex := 144, attributes := #[] }, { accessFlags := 2, nameIndex := 137, descriptorIndex := 134, attributes := #[] }, { accessFlags := 2, nameIndex := 98, descriptorIndex := 6, attributes := #[] }, { accessFlags := 2, nameIndex := 147, descriptorIndex := 108, attributes := #[] }, { accessFlags := 2, nameIndex := 153, descriptorIndex := 154, attributes := #[] }, { accessFlags := 2, nameIndex := 157, descriptorIndex := 134, attributes := #[] }, { accessFlags := 2, nameIndex := 166, descriptorIndex := 134, attributes := #[] }, { accessFlags := 2, nameIndex := 101, descriptorIndex := 77, attributes := #[] }, { accessFlags := 2, nameIndex := 104, descriptorIndex := 6, attributes := #[] }, { accessFlags := 2, nameIndex := 107, descriptorIndex := 108, attributes := #[] }, { accessFlags := 2, nameIndex := 178, descriptorIndex := 179, attributes := #[] }, { accessFlags := 2, nameIndex := 186, descriptorIndex := 187, attributes := #[] }, { accessFlags := 2, nameIndex := 111, descriptorIndex := 73, attributes := #[] }, { accessFlags := 2, nameIndex := 190, descriptorIndex := 191, attributes := #[] }, { accessFlags := 2, nameIndex := 197, descriptorIndex := 183, attributes := #[] }, { accessFlags := 2, nameIndex := 194, descriptorIndex := 77, attributes := #[] }, { accessFlags := 2, nameIndex := 200, descriptorIndex := 201, attributes := #[] }] 49 2 #[] #[{ accessFlags := 25, nameIndex := 204, descriptorIndex := 59, attributes := #[] }, { accessFlags := 25, nameIndex := 207, descriptorIndex := 59, attributes := #[] }, { accessFlags := 25, nameIndex := 209, descriptorIndex := 59, attributes := #[] }, { accessFlags := 25, nameIndex := 211, descriptorIndex := 59, attributes := #[] }, { accessFlags := 25, nameIndex := 213, descriptorIndex := 59, attributes := #[] }, { accessFlags := 25, nameIndex := 215, descriptorIndex := 59, attributes := #[] }, { accessFlags := 25, nameIndex := 217, descriptorIndex := 59, attributes := #[] }, { accessFlags := 25, nameIndex := 219, descriptorIndex := 59, attributes := #[] }, { accessFlags := 25, nameIndex := 221, descriptorIndex := 59, attributes := #[] }, { accessFlags := 25, nameIndex := 223, descriptorIndex := 59, attributes := #[] }, { accessFlags := 25, nameIndex := 224, descriptorIndex := 59, attributes := #[] }, { accessFlags := 2, nameIndex := 58, descriptorIndex := 59, attributes := #[] }, { accessFlags := 2, nameIndex := 62, descriptorIndex := 59, attributes := #[] }, { accessFlags := 18, nameIndex := 11, descriptorIndex := 12, attributes := #[] }, { accessFlags := 2, nameIndex := 65, descriptorIndex := 59, attributes := #[] }, { accessFlags := 18, nameIndex := 15, descriptorIndex := 12, attributes := #[] }, { accessFlags := 18, nameIndex := 18, descriptorIndex := 12, attributes := #[] }, { accessFlags := 2, nameIndex := 83, descriptorIndex := 59, attributes := #[] }, { accessFlags := 2, nameIndex := 80, descriptorIndex := 59, attributes := #[] }, { accessFlags := 2, nameIndex := 89, descriptorIndex := 59, attributes := #[] }, { accessFlags := 2, nameIndex := 160, descriptorIndex := 59, attributes := #[] }, { accessFlags := 2, nameIndex := 68, descriptorIndex := 69, attributes := #[] }, { accessFlags := 2, nameIndex := 86, descriptorIndex := 59, attributes := #[] }, { accessFlags := 2, nameIndex := 92, descriptorIndex := 59, attributes := #[] }, { accessFlags := 2, nameIndex := 95, descriptorIndex := 59, attributes := #[] }, { accessFlags := 18, nameIndex := 21, descriptorIndex := 12, attributes := #[] }, { accessFlags := 18, nameIndex := 24, descriptorIndex := 12, attributes := #[] }, { accessFlags := 18, nameIndex := 27, descriptorIndex := 12, attributes := #[] }, { accessFlags := 18, nameIndex := 30, descriptorIndex := 31, attributes := #[] }, { accessFlags := 18, nameIndex := 34, descriptorIndex := 31, attributes := #[] }, { accessFlags := 18, nameIndex := 37, descriptorIndex := 31, attributes := #[] }, { accessFlags := 18, nameIndex := 40, descriptorIndex := 31, attributes := #[] }, { accessFlags := 18, nameIndex := 43, descriptorIndex := 31, attributes := #[] }, { accessFlags := 18, nameIndex := 46, descriptorIndex := 31, attributes := #[] }, { accessFlags := 18, nameIndex := 49, descriptorIndex := 12, attributes := #[] }, { accessFlags := 18, nameIndex := 52, descriptorIndex := 12, attributes := #[] }, { accessFlags := 18, nameIndex := 55, descriptorIndex := 31, attributes := #[] }, { accessFlags := 2, nameIndex := 171, descriptorIndex := 59, attributes := #[] }, { accessFlags := 2, nameIndex := 174, descriptorIndex := 175, attributes := #[] }])
  fields := #[{ name := "OK", type := .int, accessFlags := 25, slot := 0, constantValue := 0 }, { name := "SYNTAX", type := .int, accessFlags := 25, slot := 1, constantValue := 0 }, { name := "TOO_MANY_SPECIES", type := .int, accessFlags := 25, slot := 2, constantValue := 0 }, { name := "TOO_MANY_ELEMENTS", type := .int, accessFlags := 25, slot := 3, constantValue := 0 }, { name := "COUNT_TOO_BIG", type := .int, accessFlags := 25, slot := 4, constantValue := 0 }, { name := "MANY_SOLUTIONS", type := .int, accessFlags := 25, slot := 5, constantValue := 0 }, { name := "NO_SOLUTION", type := .int, accessFlags := 25, slot := 6, constantValue := 0 }, { name := "BUFFER_CAPACITY", type := .int, accessFlags := 25, slot := 7, constantValue := 0 }, { name := "MAX_COUNT", type := .int, accessFlags := 25, slot := 8, constantValue := 0 }, { name := "MAX_AMOUNT", type := .int, accessFlags := 25, slot := 9, constantValue := 0 }, { name := "MAX_EVENTS", type := .int, accessFlags := 25, slot := 10, constantValue := 0 }, { name := "maxSpecies", type := .int, accessFlags := 2, slot := 0, constantValue := 0 }, { name := "maxElements", type := .int, accessFlags := 2, slot := 1, constantValue := 0 }, { name := "buf", type := (.array .int), accessFlags := 18, slot := 2, constantValue := 0 }, { name := "len", type := .int, accessFlags := 2, slot := 3, constantValue := 0 }, { name := "openStack", type := (.array .int), accessFlags := 18, slot := 4, constantValue := 0 }, { name := "seenCodes", type := (.array .int), accessFlags := 18, slot := 5, constantValue := 0 }, { name := "seenCount", type := .int, accessFlags := 2, slot := 6, constantValue := 0 }, { name := "parsedSpecies", type := .int, accessFlags := 2, slot := 7, constantValue := 0 }, { name := "parsedLeft", type := .int, accessFlags := 2, slot := 8, constantValue := 0 }, { name := "numEnd", type := .int, accessFlags := 2, slot := 9, constantValue := 0 }, { name := "present", type := .boolean, accessFlags := 2, slot := 10, constantValue := 0 }, { name := "n", type := .int, accessFlags := 2, slot := 11, constantValue := 0 }, { name := "left", type := .int, accessFlags := 2, slot := 12, constantValue := 0 }, { name := "elems", type := .int, accessFlags := 2, slot := 13, constantValue := 0 }, { name := "elemCode", type := (.array .int), accessFlags := 18, slot := 14, constantValue := 0 }, { name := "count", type := (.array .int), accessFlags := 18, slot := 15, constantValue := 0 }, { name := "charge", type := (.array .int), accessFlags := 18, slot := 16, constantValue := 0 }, { name := "coef", type := (.array .long), accessFlags := 18, slot := 17, constantValue := 0 }, { name := "amount", type := (.array .long), accessFlags := 18, slot := 18, constantValue := 0 }, { name := "cnt", type := (.array .long), accessFlags := 18, slot := 19, constantValue := 0 }, { name := "acc", type := (.array .long), accessFlags := 18, slot := 20, constantValue := 0 }, { name := "mat", type := (.array .long), accessFlags := 18, slot := 21, constantValue := 0 }, { name := "work", type := (.array .long), accessFlags := 18, slot := 22, constantValue := 0 }, { name := "perm", type := (.array .int), accessFlags := 18, slot := 23, constantValue := 0 }, { name := "sel", type := (.array .int), accessFlags := 18, slot := 24, constantValue := 0 }, { name := "vec", type := (.array .long), accessFlags := 18, slot := 25, constantValue := 0 }, { name := "swapSign", type := .int, accessFlags := 2, slot := 26, constantValue := 0 }, { name := "lastPivot", type := .long, accessFlags := 2, slot := 27, constantValue := 0 }]
  methods := #[k2m0, k2m1, k2m2, k2m3, k2m4, k2m5, k2m6, k2m7, k2m8, k2m9, k2m10, k2m11, k2m12, k2m13, k2m14, k2m15, k2m16, k2m17, k2m18, k2m19, k2m20, k2m21, k2m22, k2m23, k2m24, k2m25, k2m26, k2m27, k2m28, k2m29, k2m30, k2m31, k2m32]
  instanceTypes := #[.int, .int, (.array .int), .int, (.array .int), (.array .int), .int, .int, .int, .int, .boolean, .int, .int, .int, (.array .int), (.array .int), (.array .int), (.array .long), (.array .long), (.array .long), (.array .long), (.array .long), (.array .long), (.array .int), (.array .int), (.array .long), .int, .long]
  staticTypes := #[.int, .int, .int, .int, .int, .int, .int, .int, .int, .int, .int]
  resolved := Array.replicate 249 none
  statics := none }

def pool3 : Array CpInfo := pool [(1, u "java/lang/Cloneable"), (0, .class_ 1), (0, u "java/lang/Object"), (0, .class_ 3)] 3

/-- java/lang/Cloneable -/
def k3 : Class := { plain "java/lang/Cloneable" (some 0) with
  accessFlags := 1537
  interfaces := #[]
  cf := some (fileOf pool3 2 #[] #[] 1537 4 #[] #[])
  fields := #[]
  methods := #[]
  instanceTypes := #[]
  staticTypes := #[]
  resolved := Array.replicate 8 none
  statics := none }

def pool4 : Array CpInfo := pool [(1, u "java/io/Serializable"), (0, .class_ 1), (0, u "java/lang/Object"), (0, .class_ 3)] 3

/-- java/io/Serializable -/
def k4 : Class := { plain "java/io/Serializable" (some 0) with
  accessFlags := 1537
  interfaces := #[]
  cf := some (fileOf pool4 2 #[] #[] 1537 4 #[] #[])
  fields := #[]
  methods := #[]
  instanceTypes := #[]
  staticTypes := #[]
  resolved := Array.replicate 8 none
  statics := none }

/-- the primitive byte -/
def k5 : Class := { plain "byte" none with kind := .primitive 'B', accessFlags := 0x411 }
/-- [B -/
def k6 : Class := { plain "[B" (some 0) with kind := .array 5 .byte, interfaces := #[3, 4], accessFlags := 1041 }

/-- the primitive int -/
def k7 : Class := { plain "int" none with kind := .primitive 'I', accessFlags := 0x411 }
/-- [I -/
def k8 : Class := { plain "[I" (some 0) with kind := .array 7 .int, interfaces := #[3, 4], accessFlags := 1041 }

/-- the primitive long -/
def k9 : Class := { plain "long" none with kind := .primitive 'J', accessFlags := 0x411 }
/-- [J -/
def k10 : Class := { plain "[J" (some 0) with kind := .array 9 .long, interfaces := #[3, 4], accessFlags := 1041 }

def heap : Heap := #[]
def classes : Array Class := #[k0, k1, k2, k3, k4, k5, k6, k7, k8, k9, k10]
def interned : List (Array UInt16 × Addr) := []
def slotsUsed : Nat := 0
def theMethod : MethodId := ⟨1, 2⟩
def args0 : Array Value := #[.int 3, .int 5, .int 2, .int 1, .int 2, .int 4]
def aboutOver (below : List Frame) : State where
  vm := { classes := classes, interned := interned.toArray }
  heap := heap
  slotsUsed := slotsUsed
  threads := #[{ frames := .invoking theMethod args0 :: below }]
def below0 : List Frame := [.native { method := ⟨0, 0⟩, args := #[] }]
def about1 : State := aboutOver below0
def p0 : Program := .bare "" "" ""
def e0 : Env := launch0.env 0 0 0
theorem w_frames : about1.frames = Frame.invoking theMethod args0 :: below0 := rfl
set_option maxRecDepth 65536 in
theorem w_args : argsFit about1.vm theMethod args0 = true := by decide +kernel
set_option maxRecDepth 65536 in
theorem w_heap : heapFits about1 = true := by decide +kernel
set_option maxRecDepth 65536 in
theorem w_runnable : about1.curStatus? = some .runnable := by decide +kernel
set_option maxRecDepth 65536 in
theorem w_alone : about1.alone = true := by decide +kernel
set_option maxRecDepth 65536 in
theorem w_named : about1.methodNamed? x = some theMethod := by decide +kernel
set_option maxRecDepth 65536 in
theorem w_hears : about1.hears theMethod below0 = true := by decide +kernel
set_option maxRecDepth 65536 in
theorem w_ripe : about1.ripe theMethod args0 below0 = true := by decide +kernel
theorem w_running : about1.status = .running := rfl
set_option maxRecDepth 65536 in
theorem w_room : about1.hasRoom e0.platform room_1 = true :=
  launch0.hasRoom_least _ room_1 (by decide +kernel) (by decide +kernel) (by decide +kernel) (by decide +kernel) (by decide +kernel) (by decide +kernel)
theorem allAtoms_all (ts : List Jvm.Cond) (a : Array Jvm.Value) (st : Jvm.State) : (allAtoms ts).before a st = ts.all (fun c => c.before a st) := by
  induction ts with
  | nil => rfl
  | cons c t ih =>
    show (Jvm.Cond.and c (allAtoms t)).before a st = _
    rw [Jvm.Cond.before_and, ih, List.all_cons]
def words1 : List Jvm.Cond := Jvm.Cond.code x code maxLocals ret :: tables_1
/-- a 'code' word, met by the world's own term for the bytes: nothing is compared byte by byte -/
theorem code_word {y : MethodName} {bytes : ByteArray} {mx : Nat} {rt : Option FieldType} {a : Array Value} {s : State} {m : MethodId} {meth : Method} {c : Code} (h1 : s.methodNamed? y = some m) (h2 : s.vm.method? m = some meth) (h3 : meth.code = some c) (h4 : c.code = bytes)
    (h5 : (c.maxLocals == mx && c.exceptionTable.isEmpty && decide (c.maxStack ≤ mostOperands) && decide (meth.sig.returnType = rt) && !meth.locks && decide (parseMethodDescriptor y.desc = some meth.sig)) = true) : (Jvm.Cond.code y bytes mx rt).before a s = true := by
  simp only [Bool.and_eq_true, beq_iff_eq, Bool.not_eq_true', decide_eq_true_eq] at h5
  obtain ⟨⟨⟨⟨⟨g1, g2⟩, g3⟩, g4⟩, g5⟩, g6⟩ := h5
  simp [Cond.before, Cond.holds, Cond.value, h1, h2, h3, h4, g1, g2, g3, g4, g5, g6]
def isCode : Jvm.Cond → Bool
  | .code _ _ _ _ => true
  | _ => false
theorem all_split {L : List Jvm.Cond} {P : Jvm.Cond → Bool} (h1 : L.all (fun c => isCode c || P c) = true) (h2 : ∀ c ∈ L.filter isCode, P c = true) : L.all P = true := by
  refine List.all_eq_true.mpr fun c hc => ?_
  have h := List.all_eq_true.mp h1 c hc
  rcases Bool.eq_false_or_eq_true (isCode c) with hi | hi
  · exact h2 c (List.mem_filter.mpr ⟨hc, hi⟩)
  · simpa [hi] using h
set_option maxRecDepth 65536 in
theorem w_c0 : (Jvm.Cond.code x code maxLocals ret).before args0 about1 = true := code_word (m := ⟨1, 2⟩) (meth := k1m2) (c := k1c2) (by decide +kernel) rfl rfl rfl (by decide +kernel)
set_option maxRecDepth 65536 in
theorem w_c1 : (Jvm.Cond.code ({ cls := "ChemBalancer", name := "<init>", desc := "(II)V" } : Jvm.MethodName) prog_1_method_1_code (5 : Nat) (Option.none : Option Jvm.ClassFile.FieldType)).before args0 about1 = true := code_word (m := ⟨2, 0⟩) (meth := k2m0) (c := k2c0) (by decide +kernel) rfl rfl rfl (by decide +kernel)
set_option maxRecDepth 65536 in
theorem w_c2 : (Jvm.Cond.code ({ cls := "java/lang/Object", name := "<init>", desc := "()V" } : Jvm.MethodName) object_method_1_code (1 : Nat) (Option.none : Option Jvm.ClassFile.FieldType)).before args0 about1 = true := code_word (m := ⟨0, 0⟩) (meth := k0m0) (c := k0c0) (by decide +kernel) rfl rfl rfl (by decide +kernel)
set_option maxRecDepth 65536 in
theorem w_c3 : (Jvm.Cond.code ({ cls := "ChemBalancer", name := "feed", desc := "(I)Z" } : Jvm.MethodName) prog_1_method_2_code (2 : Nat) (Option.some Jvm.ClassFile.FieldType.boolean)).before args0 about1 = true := code_word (m := ⟨2, 1⟩) (meth := k2m1) (c := k2c1) (by decide +kernel) rfl rfl rfl (by decide +kernel)
set_option maxRecDepth 65536 in
theorem w_c4 : (Jvm.Cond.code ({ cls := "ChemBalancer", name := "isAccepted", desc := "(I)Z" } : Jvm.MethodName) prog_1_method_23_code (2 : Nat) (Option.some Jvm.ClassFile.FieldType.boolean)).before args0 about1 = true := code_word (m := ⟨2, 13⟩) (meth := k2m13) (c := k2c13) (by decide +kernel) rfl rfl rfl (by decide +kernel)
set_option maxRecDepth 65536 in
theorem w_c5 : (Jvm.Cond.code ({ cls := "ChemBalancer", name := "isUpper", desc := "(I)Z" } : Jvm.MethodName) prog_1_method_20_code (2 : Nat) (Option.some Jvm.ClassFile.FieldType.boolean)).before args0 about1 = true := code_word (m := ⟨2, 10⟩) (meth := k2m10) (c := k2c10) (by decide +kernel) rfl rfl rfl (by decide +kernel)
set_option maxRecDepth 65536 in
theorem w_c6 : (Jvm.Cond.code ({ cls := "ChemBalancer", name := "isLower", desc := "(I)Z" } : Jvm.MethodName) prog_1_method_21_code (2 : Nat) (Option.some Jvm.ClassFile.FieldType.boolean)).before args0 about1 = true := code_word (m := ⟨2, 11⟩) (meth := k2m11) (c := k2c11) (by decide +kernel) rfl rfl rfl (by decide +kernel)
set_option maxRecDepth 65536 in
theorem w_c7 : (Jvm.Cond.code ({ cls := "ChemBalancer", name := "isDigit", desc := "(I)Z" } : Jvm.MethodName) prog_1_method_22_code (2 : Nat) (Option.some Jvm.ClassFile.FieldType.boolean)).before args0 about1 = true := code_word (m := ⟨2, 12⟩) (meth := k2m12) (c := k2c12) (by decide +kernel) rfl rfl rfl (by decide +kernel)
set_option maxRecDepth 65536 in
theorem w_c8 : (Jvm.Cond.code ({ cls := "ChemBalancer", name := "balance", desc := "()I" } : Jvm.MethodName) prog_1_method_6_code (4 : Nat) (Option.some Jvm.ClassFile.FieldType.int)).before args0 about1 = true := code_word (m := ⟨2, 2⟩) (meth := k2m2) (c := k2c2) (by decide +kernel) rfl rfl rfl (by decide +kernel)
set_option maxRecDepth 65536 in
theorem w_c9 : (Jvm.Cond.code ({ cls := "ChemBalancer", name := "validate", desc := "()Z" } : Jvm.MethodName) prog_1_method_24_code (8 : Nat) (Option.some Jvm.ClassFile.FieldType.boolean)).before args0 about1 = true := code_word (m := ⟨2, 14⟩) (meth := k2m14) (c := k2c14) (by decide +kernel) rfl rfl rfl (by decide +kernel)
set_option maxRecDepth 65536 in
theorem w_c10 : (Jvm.Cond.code ({ cls := "ChemBalancer", name := "scanAtom", desc := "(I)I" } : Jvm.MethodName) prog_1_method_25_code (4 : Nat) (Option.some Jvm.ClassFile.FieldType.int)).before args0 about1 = true := code_word (m := ⟨2, 15⟩) (meth := k2m15) (c := k2c15) (by decide +kernel) rfl rfl rfl (by decide +kernel)
set_option maxRecDepth 65536 in
theorem w_c11 : (Jvm.Cond.code ({ cls := "ChemBalancer", name := "noteElement", desc := "(I)V" } : Jvm.MethodName) prog_1_method_26_code (3 : Nat) (Option.none : Option Jvm.ClassFile.FieldType)).before args0 about1 = true := code_word (m := ⟨2, 16⟩) (meth := k2m16) (c := k2c16) (by decide +kernel) rfl rfl rfl (by decide +kernel)
set_option maxRecDepth 65536 in
theorem w_c12 : (Jvm.Cond.code ({ cls := "ChemBalancer", name := "numberEnd", desc := "(I)I" } : Jvm.MethodName) prog_1_method_27_code (2 : Nat) (Option.some Jvm.ClassFile.FieldType.int)).before args0 about1 = true := code_word (m := ⟨2, 17⟩) (meth := k2m17) (c := k2c17) (by decide +kernel) rfl rfl rfl (by decide +kernel)
set_option maxRecDepth 65536 in
theorem w_c13 : (Jvm.Cond.code ({ cls := "ChemBalancer", name := "computeCounts", desc := "()V" } : Jvm.MethodName) prog_1_method_29_code (8 : Nat) (Option.none : Option Jvm.ClassFile.FieldType)).before args0 about1 = true := code_word (m := ⟨2, 18⟩) (meth := k2m18) (c := k2c18) (by decide +kernel) rfl rfl rfl (by decide +kernel)
set_option maxRecDepth 65536 in
theorem w_c14 : (Jvm.Cond.code ({ cls := "ChemBalancer", name := "addAtom", desc := "(II)I" } : Jvm.MethodName) prog_1_method_30_code (7 : Nat) (Option.some Jvm.ClassFile.FieldType.int)).before args0 about1 = true := code_word (m := ⟨2, 19⟩) (meth := k2m19) (c := k2c19) (by decide +kernel) rfl rfl rfl (by decide +kernel)
set_option maxRecDepth 65536 in
theorem w_c15 : (Jvm.Cond.code ({ cls := "ChemBalancer", name := "elemIndex", desc := "(I)I" } : Jvm.MethodName) prog_1_method_35_code (3 : Nat) (Option.some Jvm.ClassFile.FieldType.int)).before args0 about1 = true := code_word (m := ⟨2, 22⟩) (meth := k2m22) (c := k2c22) (by decide +kernel) rfl rfl rfl (by decide +kernel)
set_option maxRecDepth 65536 in
theorem w_c16 : (Jvm.Cond.code ({ cls := "ChemBalancer", name := "readNumber", desc := "(I)I" } : Jvm.MethodName) prog_1_method_34_code (4 : Nat) (Option.some Jvm.ClassFile.FieldType.int)).before args0 about1 = true := code_word (m := ⟨2, 21⟩) (meth := k2m21) (c := k2c21) (by decide +kernel) rfl rfl rfl (by decide +kernel)
set_option maxRecDepth 65536 in
theorem w_c17 : (Jvm.Cond.code ({ cls := "ChemBalancer", name := "foldHunit", desc := "(IJ)V" } : Jvm.MethodName) prog_1_method_33_code (5 : Nat) (Option.none : Option Jvm.ClassFile.FieldType)).before args0 about1 = true := code_word (m := ⟨2, 20⟩) (meth := k2m20) (c := k2c20) (by decide +kernel) rfl rfl rfl (by decide +kernel)
set_option maxRecDepth 65536 in
theorem w_c18 : (Jvm.Cond.code ({ cls := "ChemBalancer", name := "countsFit", desc := "()Z" } : Jvm.MethodName) prog_1_method_36_code (5 : Nat) (Option.some Jvm.ClassFile.FieldType.boolean)).before args0 about1 = true := code_word (m := ⟨2, 23⟩) (meth := k2m23) (c := k2c23) (by decide +kernel) rfl rfl rfl (by decide +kernel)
set_option maxRecDepth 65536 in
theorem w_c19 : (Jvm.Cond.code ({ cls := "ChemBalancer", name := "buildMatrix", desc := "()V" } : Jvm.MethodName) prog_1_method_37_code (5 : Nat) (Option.none : Option Jvm.ClassFile.FieldType)).before args0 about1 = true := code_word (m := ⟨2, 24⟩) (meth := k2m24) (c := k2c24) (by decide +kernel) rfl rfl rfl (by decide +kernel)
set_option maxRecDepth 65536 in
theorem w_c20 : (Jvm.Cond.code ({ cls := "ChemBalancer", name := "eliminate", desc := "(II)I" } : Jvm.MethodName) prog_1_method_38_code (11 : Nat) (Option.some Jvm.ClassFile.FieldType.int)).before args0 about1 = true := code_word (m := ⟨2, 25⟩) (meth := k2m25) (c := k2c25) (by decide +kernel) rfl rfl rfl (by decide +kernel)
set_option maxRecDepth 65536 in
theorem w_c21 : (Jvm.Cond.code ({ cls := "ChemBalancer", name := "findPivot", desc := "(III)I" } : Jvm.MethodName) prog_1_method_39_code (5 : Nat) (Option.some Jvm.ClassFile.FieldType.int)).before args0 about1 = true := code_word (m := ⟨2, 26⟩) (meth := k2m26) (c := k2c26) (by decide +kernel) rfl rfl rfl (by decide +kernel)
set_option maxRecDepth 65536 in
theorem w_c22 : (Jvm.Cond.code ({ cls := "ChemBalancer", name := "reduceRow", desc := "(IIIJJ)V" } : Jvm.MethodName) prog_1_method_41_code (11 : Nat) (Option.none : Option Jvm.ClassFile.FieldType)).before args0 about1 = true := code_word (m := ⟨2, 27⟩) (meth := k2m27) (c := k2c27) (by decide +kernel) rfl rfl rfl (by decide +kernel)
set_option maxRecDepth 65536 in
theorem w_c23 : (Jvm.Cond.code ({ cls := "ChemBalancer", name := "solveNullVector", desc := "(I)Z" } : Jvm.MethodName) prog_1_method_42_code (3 : Nat) (Option.some Jvm.ClassFile.FieldType.boolean)).before args0 about1 = true := code_word (m := ⟨2, 28⟩) (meth := k2m28) (c := k2c28) (by decide +kernel) rfl rfl rfl (by decide +kernel)
set_option maxRecDepth 65536 in
theorem w_c24 : (Jvm.Cond.code ({ cls := "ChemBalancer", name := "signedMinor", desc := "(II)J" } : Jvm.MethodName) prog_1_method_43_code (6 : Nat) (Option.some Jvm.ClassFile.FieldType.long)).before args0 about1 = true := code_word (m := ⟨2, 29⟩) (meth := k2m29) (c := k2c29) (by decide +kernel) rfl rfl rfl (by decide +kernel)
set_option maxRecDepth 65536 in
theorem w_c25 : (Jvm.Cond.code ({ cls := "ChemBalancer", name := "loadMinor", desc := "(II)V" } : Jvm.MethodName) prog_1_method_44_code (6 : Nat) (Option.none : Option Jvm.ClassFile.FieldType)).before args0 about1 = true := code_word (m := ⟨2, 30⟩) (meth := k2m30) (c := k2c30) (by decide +kernel) rfl rfl rfl (by decide +kernel)
set_option maxRecDepth 65536 in
theorem w_c26 : (Jvm.Cond.code ({ cls := "ChemBalancer", name := "normalize", desc := "()Z" } : Jvm.MethodName) prog_1_method_45_code (8 : Nat) (Option.some Jvm.ClassFile.FieldType.boolean)).before args0 about1 = true := code_word (m := ⟨2, 31⟩) (meth := k2m31) (c := k2c31) (by decide +kernel) rfl rfl rfl (by decide +kernel)
set_option maxRecDepth 65536 in
theorem w_c27 : (Jvm.Cond.code ({ cls := "ChemBalancer", name := "gcd", desc := "(JJ)J" } : Jvm.MethodName) prog_1_method_46_code (12 : Nat) (Option.some Jvm.ClassFile.FieldType.long)).before args0 about1 = true := code_word (m := ⟨2, 32⟩) (meth := k2m32) (c := k2c32) (by decide +kernel) rfl rfl rfl (by decide +kernel)
set_option maxRecDepth 65536 in
theorem w_c28 : (Jvm.Cond.code ({ cls := "ChemBalancerL3", name := "gcd", desc := "(II)I" } : Jvm.MethodName) method_2_code (4 : Nat) (Option.some Jvm.ClassFile.FieldType.int)).before args0 about1 = true := code_word (m := ⟨1, 1⟩) (meth := k1m1) (c := k1c1) (by decide +kernel) rfl rfl rfl (by decide +kernel)
set_option maxRecDepth 65536 in
theorem w_c29 : (Jvm.Cond.code ({ cls := "ChemBalancer", name := "getSpeciesCount", desc := "()I" } : Jvm.MethodName) prog_1_method_7_code (1 : Nat) (Option.some Jvm.ClassFile.FieldType.int)).before args0 about1 = true := code_word (m := ⟨2, 3⟩) (meth := k2m3) (c := k2c3) (by decide +kernel) rfl rfl rfl (by decide +kernel)
set_option maxRecDepth 65536 in
theorem w_c30 : (Jvm.Cond.code ({ cls := "ChemBalancer", name := "getLeftCount", desc := "()I" } : Jvm.MethodName) prog_1_method_8_code (1 : Nat) (Option.some Jvm.ClassFile.FieldType.int)).before args0 about1 = true := code_word (m := ⟨2, 4⟩) (meth := k2m4) (c := k2c4) (by decide +kernel) rfl rfl rfl (by decide +kernel)
set_option maxRecDepth 65536 in
theorem w_c31 : (Jvm.Cond.code ({ cls := "ChemBalancer", name := "getElementCount", desc := "()I" } : Jvm.MethodName) prog_1_method_9_code (1 : Nat) (Option.some Jvm.ClassFile.FieldType.int)).before args0 about1 = true := code_word (m := ⟨2, 5⟩) (meth := k2m5) (c := k2c5) (by decide +kernel) rfl rfl rfl (by decide +kernel)
set_option maxRecDepth 65536 in
theorem w_c32 : (Jvm.Cond.code ({ cls := "ChemBalancer", name := "getElementCode", desc := "(I)I" } : Jvm.MethodName) prog_1_method_10_code (2 : Nat) (Option.some Jvm.ClassFile.FieldType.int)).before args0 about1 = true := code_word (m := ⟨2, 6⟩) (meth := k2m6) (c := k2c6) (by decide +kernel) rfl rfl rfl (by decide +kernel)
set_option maxRecDepth 65536 in
theorem w_c33 : (Jvm.Cond.code ({ cls := "ChemBalancer", name := "getCount", desc := "(II)I" } : Jvm.MethodName) prog_1_method_11_code (3 : Nat) (Option.some Jvm.ClassFile.FieldType.int)).before args0 about1 = true := code_word (m := ⟨2, 7⟩) (meth := k2m7) (c := k2c7) (by decide +kernel) rfl rfl rfl (by decide +kernel)
set_option maxRecDepth 65536 in
theorem w_c34 : (Jvm.Cond.code ({ cls := "ChemBalancer", name := "validSpecies", desc := "(I)Z" } : Jvm.MethodName) prog_1_method_18_code (2 : Nat) (Option.some Jvm.ClassFile.FieldType.boolean)).before args0 about1 = true := code_word (m := ⟨2, 9⟩) (meth := k2m9) (c := k2c9) (by decide +kernel) rfl rfl rfl (by decide +kernel)
set_option maxRecDepth 65536 in
theorem w_c35 : (Jvm.Cond.code ({ cls := "ChemBalancer", name := "getCoefficient", desc := "(I)J" } : Jvm.MethodName) prog_1_method_13_code (2 : Nat) (Option.some Jvm.ClassFile.FieldType.long)).before args0 about1 = true := code_word (m := ⟨2, 8⟩) (meth := k2m8) (c := k2c8) (by decide +kernel) rfl rfl rfl (by decide +kernel)
def codes1 : List Jvm.Cond := [Jvm.Cond.code x code maxLocals ret, Jvm.Cond.code ({ cls := "ChemBalancer", name := "<init>", desc := "(II)V" } : Jvm.MethodName) prog_1_method_1_code (5 : Nat) (Option.none : Option Jvm.ClassFile.FieldType), Jvm.Cond.code ({ cls := "java/lang/Object", name := "<init>", desc := "()V" } : Jvm.MethodName) object_method_1_code (1 : Nat) (Option.none : Option Jvm.ClassFile.FieldType), Jvm.Cond.code ({ cls := "ChemBalancer", name := "feed", desc := "(I)Z" } : Jvm.MethodName) prog_1_method_2_code (2 : Nat) (Option.some Jvm.ClassFile.FieldType.boolean), Jvm.Cond.code ({ cls := "ChemBalancer", name := "isAccepted", desc := "(I)Z" } : Jvm.MethodName) prog_1_method_23_code (2 : Nat) (Option.some Jvm.ClassFile.FieldType.boolean), Jvm.Cond.code ({ cls := "ChemBalancer", name := "isUpper", desc := "(I)Z" } : Jvm.MethodName) prog_1_method_20_code (2 : Nat) (Option.some Jvm.ClassFile.FieldType.boolean), Jvm.Cond.code ({ cls := "ChemBalancer", name := "isLower", desc := "(I)Z" } : Jvm.MethodName) prog_1_method_21_code (2 : Nat) (Option.some Jvm.ClassFile.FieldType.boolean), Jvm.Cond.code ({ cls := "ChemBalancer", name := "isDigit", desc := "(I)Z" } : Jvm.MethodName) prog_1_method_22_code (2 : Nat) (Option.some Jvm.ClassFile.FieldType.boolean), Jvm.Cond.code ({ cls := "ChemBalancer", name := "balance", desc := "()I" } : Jvm.MethodName) prog_1_method_6_code (4 : Nat) (Option.some Jvm.ClassFile.FieldType.int), Jvm.Cond.code ({ cls := "ChemBalancer", name := "validate", desc := "()Z" } : Jvm.MethodName) prog_1_method_24_code (8 : Nat) (Option.some Jvm.ClassFile.FieldType.boolean), Jvm.Cond.code ({ cls := "ChemBalancer", name := "scanAtom", desc := "(I)I" } : Jvm.MethodName) prog_1_method_25_code (4 : Nat) (Option.some Jvm.ClassFile.FieldType.int), Jvm.Cond.code ({ cls := "ChemBalancer", name := "noteElement", desc := "(I)V" } : Jvm.MethodName) prog_1_method_26_code (3 : Nat) (Option.none : Option Jvm.ClassFile.FieldType), Jvm.Cond.code ({ cls := "ChemBalancer", name := "numberEnd", desc := "(I)I" } : Jvm.MethodName) prog_1_method_27_code (2 : Nat) (Option.some Jvm.ClassFile.FieldType.int), Jvm.Cond.code ({ cls := "ChemBalancer", name := "computeCounts", desc := "()V" } : Jvm.MethodName) prog_1_method_29_code (8 : Nat) (Option.none : Option Jvm.ClassFile.FieldType), Jvm.Cond.code ({ cls := "ChemBalancer", name := "addAtom", desc := "(II)I" } : Jvm.MethodName) prog_1_method_30_code (7 : Nat) (Option.some Jvm.ClassFile.FieldType.int), Jvm.Cond.code ({ cls := "ChemBalancer", name := "elemIndex", desc := "(I)I" } : Jvm.MethodName) prog_1_method_35_code (3 : Nat) (Option.some Jvm.ClassFile.FieldType.int), Jvm.Cond.code ({ cls := "ChemBalancer", name := "readNumber", desc := "(I)I" } : Jvm.MethodName) prog_1_method_34_code (4 : Nat) (Option.some Jvm.ClassFile.FieldType.int), Jvm.Cond.code ({ cls := "ChemBalancer", name := "foldHunit", desc := "(IJ)V" } : Jvm.MethodName) prog_1_method_33_code (5 : Nat) (Option.none : Option Jvm.ClassFile.FieldType), Jvm.Cond.code ({ cls := "ChemBalancer", name := "countsFit", desc := "()Z" } : Jvm.MethodName) prog_1_method_36_code (5 : Nat) (Option.some Jvm.ClassFile.FieldType.boolean), Jvm.Cond.code ({ cls := "ChemBalancer", name := "buildMatrix", desc := "()V" } : Jvm.MethodName) prog_1_method_37_code (5 : Nat) (Option.none : Option Jvm.ClassFile.FieldType), Jvm.Cond.code ({ cls := "ChemBalancer", name := "eliminate", desc := "(II)I" } : Jvm.MethodName) prog_1_method_38_code (11 : Nat) (Option.some Jvm.ClassFile.FieldType.int), Jvm.Cond.code ({ cls := "ChemBalancer", name := "findPivot", desc := "(III)I" } : Jvm.MethodName) prog_1_method_39_code (5 : Nat) (Option.some Jvm.ClassFile.FieldType.int), Jvm.Cond.code ({ cls := "ChemBalancer", name := "reduceRow", desc := "(IIIJJ)V" } : Jvm.MethodName) prog_1_method_41_code (11 : Nat) (Option.none : Option Jvm.ClassFile.FieldType), Jvm.Cond.code ({ cls := "ChemBalancer", name := "solveNullVector", desc := "(I)Z" } : Jvm.MethodName) prog_1_method_42_code (3 : Nat) (Option.some Jvm.ClassFile.FieldType.boolean), Jvm.Cond.code ({ cls := "ChemBalancer", name := "signedMinor", desc := "(II)J" } : Jvm.MethodName) prog_1_method_43_code (6 : Nat) (Option.some Jvm.ClassFile.FieldType.long), Jvm.Cond.code ({ cls := "ChemBalancer", name := "loadMinor", desc := "(II)V" } : Jvm.MethodName) prog_1_method_44_code (6 : Nat) (Option.none : Option Jvm.ClassFile.FieldType), Jvm.Cond.code ({ cls := "ChemBalancer", name := "normalize", desc := "()Z" } : Jvm.MethodName) prog_1_method_45_code (8 : Nat) (Option.some Jvm.ClassFile.FieldType.boolean), Jvm.Cond.code ({ cls := "ChemBalancer", name := "gcd", desc := "(JJ)J" } : Jvm.MethodName) prog_1_method_46_code (12 : Nat) (Option.some Jvm.ClassFile.FieldType.long), Jvm.Cond.code ({ cls := "ChemBalancerL3", name := "gcd", desc := "(II)I" } : Jvm.MethodName) method_2_code (4 : Nat) (Option.some Jvm.ClassFile.FieldType.int), Jvm.Cond.code ({ cls := "ChemBalancer", name := "getSpeciesCount", desc := "()I" } : Jvm.MethodName) prog_1_method_7_code (1 : Nat) (Option.some Jvm.ClassFile.FieldType.int), Jvm.Cond.code ({ cls := "ChemBalancer", name := "getLeftCount", desc := "()I" } : Jvm.MethodName) prog_1_method_8_code (1 : Nat) (Option.some Jvm.ClassFile.FieldType.int), Jvm.Cond.code ({ cls := "ChemBalancer", name := "getElementCount", desc := "()I" } : Jvm.MethodName) prog_1_method_9_code (1 : Nat) (Option.some Jvm.ClassFile.FieldType.int), Jvm.Cond.code ({ cls := "ChemBalancer", name := "getElementCode", desc := "(I)I" } : Jvm.MethodName) prog_1_method_10_code (2 : Nat) (Option.some Jvm.ClassFile.FieldType.int), Jvm.Cond.code ({ cls := "ChemBalancer", name := "getCount", desc := "(II)I" } : Jvm.MethodName) prog_1_method_11_code (3 : Nat) (Option.some Jvm.ClassFile.FieldType.int), Jvm.Cond.code ({ cls := "ChemBalancer", name := "validSpecies", desc := "(I)Z" } : Jvm.MethodName) prog_1_method_18_code (2 : Nat) (Option.some Jvm.ClassFile.FieldType.boolean), Jvm.Cond.code ({ cls := "ChemBalancer", name := "getCoefficient", desc := "(I)J" } : Jvm.MethodName) prog_1_method_13_code (2 : Nat) (Option.some Jvm.ClassFile.FieldType.long)]
set_option maxRecDepth 65536 in
theorem codes_eq : words1.filter isCode = codes1 := rfl
theorem w_codes : ∀ c ∈ words1.filter isCode, c.before args0 about1 = true := by
  rw [codes_eq]
  intro c hc
  simp only [codes1, List.mem_cons, List.not_mem_nil, or_false] at hc
  rcases hc with rfl | rfl | rfl | rfl | rfl | rfl | rfl | rfl | rfl | rfl | rfl | rfl | rfl | rfl | rfl | rfl | rfl | rfl | rfl | rfl | rfl | rfl | rfl | rfl | rfl | rfl | rfl | rfl | rfl | rfl | rfl | rfl | rfl | rfl | rfl | rfl
  · exact w_c0
  · exact w_c1
  · exact w_c2
  · exact w_c3
  · exact w_c4
  · exact w_c5
  · exact w_c6
  · exact w_c7
  · exact w_c8
  · exact w_c9
  · exact w_c10
  · exact w_c11
  · exact w_c12
  · exact w_c13
  · exact w_c14
  · exact w_c15
  · exact w_c16
  · exact w_c17
  · exact w_c18
  · exact w_c19
  · exact w_c20
  · exact w_c21
  · exact w_c22
  · exact w_c23
  · exact w_c24
  · exact w_c25
  · exact w_c26
  · exact w_c27
  · exact w_c28
  · exact w_c29
  · exact w_c30
  · exact w_c31
  · exact w_c32
  · exact w_c33
  · exact w_c34
  · exact w_c35
set_option maxRecDepth 65536 in
theorem w_t1 : (words1.take 24).all (fun c => isCode c || c.before args0 about1) = true := by decide +kernel
set_option maxRecDepth 65536 in
theorem w_t2 : ((words1.drop 24).take 24).all (fun c => isCode c || c.before args0 about1) = true := by decide +kernel
set_option maxRecDepth 65536 in
theorem w_t3 : (((words1.drop 24).drop 24).take 24).all (fun c => isCode c || c.before args0 about1) = true := by decide +kernel
set_option maxRecDepth 65536 in
theorem w_t4 : ((((words1.drop 24).drop 24).drop 24).take 24).all (fun c => isCode c || c.before args0 about1) = true := by decide +kernel
set_option maxRecDepth 65536 in
theorem w_t5 : (((((words1.drop 24).drop 24).drop 24).drop 24).take 24).all (fun c => isCode c || c.before args0 about1) = true := by decide +kernel
set_option maxRecDepth 65536 in
theorem w_t6 : ((((((words1.drop 24).drop 24).drop 24).drop 24).drop 24).take 24).all (fun c => isCode c || c.before args0 about1) = true := by decide +kernel
set_option maxRecDepth 65536 in
theorem w_t7 : (((((((words1.drop 24).drop 24).drop 24).drop 24).drop 24).drop 24).take 24).all (fun c => isCode c || c.before args0 about1) = true := by decide +kernel
set_option maxRecDepth 65536 in
theorem w_t8 : ((((((((words1.drop 24).drop 24).drop 24).drop 24).drop 24).drop 24).drop 24).take 24).all (fun c => isCode c || c.before args0 about1) = true := by decide +kernel
set_option maxRecDepth 65536 in
theorem w_t9 : ((((((((words1.drop 24).drop 24).drop 24).drop 24).drop 24).drop 24).drop 24).drop 24).all (fun c => isCode c || c.before args0 about1) = true := by decide +kernel
theorem w_tables : (allAtoms (Jvm.Cond.code x code maxLocals ret :: tables_1)).before args0 about1 = true := by
  rw [allAtoms_all]
  show words1.all (fun c => c.before args0 about1) = true
  refine all_split ?_ w_codes
  rw [← List.take_append_drop 24 words1, List.all_append, w_t1, ← List.take_append_drop 24 (words1.drop 24), List.all_append, w_t2, ← List.take_append_drop 24 ((words1.drop 24).drop 24), List.all_append, w_t3, ← List.take_append_drop 24 (((words1.drop 24).drop 24).drop 24), List.all_append, w_t4, ← List.take_append_drop 24 ((((words1.drop 24).drop 24).drop 24).drop 24), List.all_append, w_t5, ← List.take_append_drop 24 (((((words1.drop 24).drop 24).drop 24).drop 24).drop 24), List.all_append, w_t6, ← List.take_append_drop 24 ((((((words1.drop 24).drop 24).drop 24).drop 24).drop 24).drop 24), List.all_append, w_t7, ← List.take_append_drop 24 (((((((words1.drop 24).drop 24).drop 24).drop 24).drop 24).drop 24).drop 24), List.all_append, w_t8, w_t9]
  rfl
set_option maxRecDepth 65536 in
theorem w_case : (Jvm.Cond.and given_1 narrow_1).before args0 about1 = true := by decide +kernel
theorem w_applies : (headSpec (Jvm.Cond.code x code maxLocals ret :: tables_1) room_1).applies x e0.platform about1 = true :=
  (Spec.applies_iff w_frames).mpr ⟨w_running, w_runnable, w_alone, w_named, w_hears, w_ripe, w_room, w_tables⟩
theorem atStart : AtStart classFile x code maxLocals ret World_1 tables_1 room_1 Calls_1 rest_1 Pre_1 launch0 p0 e0 about1 theMethod args0 below0 :=
  ⟨lists_1, trivial, launch0.admits_env _ _ _, launch0.least_env, fairChoices_fair.cas, fairChoices_fair.clock, w_frames, w_args, w_heap, w_applies, trivial, trivial, w_case⟩
end start1
theorem witness_1 : WitnessClaimed_1 := ⟨start1.p0, start1.e0, start1.about1, start1.theMethod, start1.args0, start1.below0, start1.atStart⟩
end Jvm.Pilot.@@N@@
