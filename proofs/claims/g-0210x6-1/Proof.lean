import JvmDerived
import JvmDerived.Pilot.@@N@@Statement
import JvmDerived.Pilot.@@N@@Code
set_option linter.unusedVariables false
set_option linter.unusedSimpArgs false
set_option maxRecDepth 20000
namespace Jvm.JX
open Sem ClassFile Op Lib
abbrev Cel : Type := FieldType × Nat × Bool × (Nat → Value)
abbrev AH : Type := Nat × (Nat → Cel)
abbrev MInfo : Type := Nat × Nat × Nat × Option FieldType × Jvm.Room
abbrev Prog : Type := (Nat → Nat → Option (Instr × Nat × Int)) × (Nat → MInfo) × (Nat → FieldType) × Nat
abbrev Fm : Type := Nat × List Slot × List Value × Nat × Nat × AH
def na (P : Prog) (m : Nat) : Nat := (P.2.1 m).1
def ml (P : Prog) (m : Nat) : Nat := (P.2.1 m).2.1
def kd (P : Prog) (m : Nat) : Nat := (P.2.1 m).2.2.1
def rt (P : Prog) (m : Nat) : Option FieldType := (P.2.1 m).2.2.2.1
def rm (P : Prog) (m : Nat) : Jvm.Room := (P.2.1 m).2.2.2.2
def isO (H : AH) (a : Nat) : Bool := match (H.2 a).1 with | .object _ => true | _ => false
def isOw (H : AH) (a : Nat) : Bool := isO H a && (H.2 a).2.2.1
def inA (H : AH) (a : Nat) (t : FieldType) (i : Int32) : Bool := decide ((H.2 a).1 = .array t) && !decide (i < 0) && decide (i.toNatClampNeg < (H.2 a).2.1)
def inAw (H : AH) (a : Nat) (t : FieldType) (i : Int32) : Bool := inA H a t i && (H.2 a).2.2.1
def isA (H : AH) (a : Nat) : Bool := match (H.2 a).1 with | .array _ => true | _ => false
def elt (H : AH) (a : Nat) (i : Int32) : Value := (H.2 a).2.2.2 i.toNatClampNeg
def fld (H : AH) (a k : Nat) : Value := (H.2 a).2.2.2 k
def alen (H : AH) (a : Nat) : Nat := (H.2 a).2.1
def wr (H : AH) (a j : Nat) (v : Value) : AH := (H.1, fun b => if b = a then ((H.2 a).1, (H.2 a).2.1, (H.2 a).2.2.1, fun i => if i = j then v else (H.2 a).2.2.2 i) else H.2 b)
def okv : FieldType → Value → Bool
  | .int, .int _ => true
  | .boolean, .int z => z == 0 || z == 1
  | .byte, .int z => z.toInt8.toInt32 == z
  | .long, .long _ => true
  | .array _, .ref _ => true
  | _, _ => false
def mkO (P : Prog) (H : AH) : AH := (H.1 + 1, fun b => if b = H.1 then (.object "", P.2.2.2, true, fun k => defaultValue (P.2.2.1 k)) else H.2 b)
def mkA (t : FieldType) (n : Nat) (H : AH) : AH := (H.1 + 1, fun b => if b = H.1 then (.array t, n, true, fun _ => defaultValue t) else H.2 b)
def cat1 : Slot → Bool | .unset => true | .val v => v.category == 1 | .second => false
def cs (S : List Value) : Nat := (S.map fun v => v.category).sum
def stl (L : List Slot) (i : Nat) (v : Value) : Option (List Slot) :=
  match L[i]? with
  | some .unset => some (L.set i (.val v))
  | some (.val w) => if w.category = 1 then some (L.set i (.val v)) else if i + 1 < L.length then some ((L.set (i + 1) .unset).set i (.val v)) else none
  | some .second => if 1 ≤ i then some ((L.set (i - 1) .unset).set i (.val v)) else none
  | none => none
def stL (L : List Slot) (i : Nat) (v : Value) : Option (List Slot) :=
  match L[i]?, L[i + 1]? with
  | some (.val w), some o2 => if w.category = 2 then some ((L.set i (.val v)).set (i + 1) .second) else if cat1 o2 = true then some ((L.set i (.val v)).set (i + 1) .second) else none
  | some .unset, some o2 => if cat1 o2 = true then some ((L.set i (.val v)).set (i + 1) .second) else none
  | _, _ => none
def ent (P : Prog) (m : Nat) (a : List Value) : List Slot := Sym.laidSlots a ++ List.replicate (ml P m - (Sym.laidSlots a).length) .unset
def ilen : Instr → Nat
  | .bipush _ | .iload _ | .istore _ | .aload _ | .astore _ | .lload _ | .lstore _ | .newarray _ | .ldc _ => 2
  | .sipush _ | .getfield _ | .putfield _ | .new _ | .invokevirtual _ | .invokestatic _ | .invokespecial _ | .ldc2_w _ | .goto _ | .ifCond _ _ | .if_icmp _ _ | .iinc _ _ => 3
  | _ => 1
def ldI (L : List Slot) (i : Nat) : Option Value := match L[i]? with | some (.val (.int x)) => some (.int x) | _ => none
def ldJ (L : List Slot) (i : Nat) : Option Value := match L[i]? with | some (.val (.long x)) => some (.long x) | _ => none
def ldR (L : List Slot) (i : Nat) : Option Value := match L[i]? with | some (.val (.ref x)) => some (.ref x) | _ => none
def jmp (pc : Nat) (o : Int) : Option Nat := if 0 ≤ (pc : Int) + o then some ((pc : Int) + o).toNat else none
def ret (P : Prog) (m : Nat) (ins : Instr) (S : List Value) : Option (Option Value) :=
  match ins with
  | .return_ => if rt P m = none ∧ S = [] then some none else none
  | .ireturn => match S, rt P m with
    | .int z :: _, some .int => some (some (.int z))
    | .int z :: _, some .boolean => if z = 0 ∨ z = 1 then some (some (.int z)) else none
    | _, _ => none
  | .lreturn => match S, rt P m with
    | .long z :: _, some .long => some (some (.long z))
    | _, _ => none
  | _ => none
def rcv (H : AH) : List Value → Bool | .ref a :: _ => isO H a | _ => false
def may (P : Prog) (m m' : Nat) (a r : List Value) (k n : Nat) (H : AH) : Bool :=
  decide ((Sym.laidSlots a).length ≤ ml P m') && decide (a.length = na P m') && decide ((rm P m').frames + 1 ≤ (rm P m).frames) && decide (cs r + (ml P m' + 11) + (rm P m').locals ≤ (rm P m).locals)
    && (decide ((rm P m').cells = 0 ∧ (rm P m').slots = 0) || decide (k + (rm P m').cells ≤ (rm P m).cells ∧ n + (rm P m').slots ≤ (rm P m).slots))
    && (decide (kd P m' = 0) || rcv H a)
def kindOk : Instr → Nat → Bool
  | .invokevirtual _, k => k == 1 || k == 2
  | .invokestatic _, k => k == 0
  | .invokespecial _, k => k == 3
  | _, _ => false
def cal1 (P : Prog) (m : Nat) (ins : Instr) (aux : Int) (S : List Value) (k n : Nat) (H : AH) : Option (Nat × List Value × List Value) :=
  if 0 ≤ aux ∧ kindOk ins (kd P aux.toNat) = true ∧ may P m aux.toNat (S.take (na P aux.toNat)).reverse (S.drop (na P aux.toNat)) k n H = true
  then some (aux.toNat, (S.take (na P aux.toNat)).reverse, S.drop (na P aux.toNat)) else none
def cal (P : Prog) (m : Nat) (ins : Instr) (aux : Int) (S : List Value) (k n : Nat) (H : AH) : Option (Nat × List Value × List Value) :=
  match ins with
  | .invokevirtual _ | .invokestatic _ | .invokespecial _ => cal1 P m ins aux S k n H
  | _ => none
def opI : Instr → Option (Int32 → Int32 → Int32)
  | .iadd => some fun x y => x + y
  | .isub => some fun x y => x - y
  | .imul => some fun x y => x * y
  | .iand => some fun x y => x &&& y
  | .ior => some fun x y => x ||| y
  | .ixor => some fun x y => x ^^^ y
  | .ishl => some fun x y => x <<< (y &&& 31)
  | .ishr => some fun x y => x >>> (y &&& 31)
  | .iushr => some Jvm.Free.XT.ushr
  | _ => none
def opJ : Instr → Option (Int64 → Int64 → Int64)
  | .ladd => some fun x y => x + y
  | .lsub => some fun x y => x - y
  | .lmul => some fun x y => x * y
  | .land => some fun x y => x &&& y
  | .lor => some fun x y => x ||| y
  | .lxor => some fun x y => x ^^^ y
  | _ => none
def opS : Instr → Option (Int64 → Int32 → Int64)
  | .lshl => some fun x y => x <<< (y.toInt64 &&& 63)
  | .lshr => some fun x y => x >>> (y.toInt64 &&& 63)
  | .lushr => some Jvm.Free.XT.ushrL
  | _ => none
def stp (P : Prog) (m : Nat) (ins : Instr) (len : Nat) (aux : Int) (pc : Nat) (L : List Slot) (S : List Value) (k n : Nat) (H : AH) : Option Fm :=
  match ins with
  | .iconst i => some (pc + len, L, .int (Int32.ofInt i) :: S, k, n, H)
  | .bipush i => some (pc + len, L, .int (Int8.ofInt i).toInt32 :: S, k, n, H)
  | .sipush i => some (pc + len, L, .int (Int16.ofInt i).toInt32 :: S, k, n, H)
  | .lconst i => some (pc + len, L, .long (Int64.ofNat i) :: S, k, n, H)
  | .ldc _ => some (pc + len, L, .int (Int32.ofInt aux) :: S, k, n, H)
  | .ldc2_w _ => some (pc + len, L, .long (Int64.ofInt aux) :: S, k, n, H)
  | .iload i => (ldI L i).map fun v => (pc + len, L, v :: S, k, n, H)
  | .iload_n i => (ldI L i.val).map fun v => (pc + len, L, v :: S, k, n, H)
  | .lload i => (ldJ L i).map fun v => (pc + len, L, v :: S, k, n, H)
  | .lload_n i => (ldJ L i.val).map fun v => (pc + len, L, v :: S, k, n, H)
  | .aload i => (ldR L i).map fun v => (pc + len, L, v :: S, k, n, H)
  | .aload_n i => (ldR L i.val).map fun v => (pc + len, L, v :: S, k, n, H)
  | .istore i => match S with | .int x :: S => (stl L i (.int x)).map fun L => (pc + len, L, S, k, n, H) | _ => none
  | .istore_n i => match S with | .int x :: S => (stl L i.val (.int x)).map fun L => (pc + len, L, S, k, n, H) | _ => none
  | .astore i => match S with | .ref x :: S => (stl L i (.ref x)).map fun L => (pc + len, L, S, k, n, H) | _ => none
  | .astore_n i => match S with | .ref x :: S => (stl L i.val (.ref x)).map fun L => (pc + len, L, S, k, n, H) | _ => none
  | .lstore i => match S with | .long x :: S => (stL L i (.long x)).map fun L => (pc + len, L, S, k, n, H) | _ => none
  | .lstore_n i => match S with | .long x :: S => (stL L i.val (.long x)).map fun L => (pc + len, L, S, k, n, H) | _ => none
  | .iinc i c => match L[i]? with | some (.val (.int x)) => some (pc + len, L.set i (.val (.int (x + Int32.ofInt c))), S, k, n, H) | _ => none
  | .iadd | .isub | .imul | .iand | .ior | .ixor | .ishl | .ishr | .iushr => match S with | .int y :: .int x :: S => (opI ins).map fun f => (pc + len, L, .int (f x y) :: S, k, n, H) | _ => none
  | .ladd | .lsub | .lmul | .land | .lor | .lxor => match S with | .long y :: .long x :: S => (opJ ins).map fun f => (pc + len, L, .long (f x y) :: S, k, n, H) | _ => none
  | .lshl | .lshr | .lushr => match S with | .int y :: .long x :: S => (opS ins).map fun f => (pc + len, L, .long (f x y) :: S, k, n, H) | _ => none
  | .idiv => match S with | .int y :: .int x :: S => if y = 0 then none else some (pc + len, L, .int (x / y) :: S, k, n, H) | _ => none
  | .irem => match S with | .int y :: .int x :: S => if y = 0 then none else some (pc + len, L, .int (x % y) :: S, k, n, H) | _ => none
  | .ldiv => match S with | .long y :: .long x :: S => if y = 0 then none else some (pc + len, L, .long (x / y) :: S, k, n, H) | _ => none
  | .lrem => match S with | .long y :: .long x :: S => if y = 0 then none else some (pc + len, L, .long (x % y) :: S, k, n, H) | _ => none
  | .ineg => match S with | .int x :: S => some (pc + len, L, .int (-x) :: S, k, n, H) | _ => none
  | .lneg => match S with | .long x :: S => some (pc + len, L, .long (-x) :: S, k, n, H) | _ => none
  | .i2l => match S with | .int x :: S => some (pc + len, L, .long x.toInt64 :: S, k, n, H) | _ => none
  | .l2i => match S with | .long x :: S => some (pc + len, L, .int x.toInt32 :: S, k, n, H) | _ => none
  | .i2b => match S with | .int x :: S => some (pc + len, L, .int x.toInt8.toInt32 :: S, k, n, H) | _ => none
  | .lcmp => match S with | .long y :: .long x :: S => some (pc + len, L, .int (Jvm.Free.XT.cmpL x y) :: S, k, n, H) | _ => none
  | .dup => match S with | v :: S => if v.category = 1 then some (pc + len, L, v :: v :: S, k, n, H) else none | _ => none
  | .dup2 => match S with
    | .long x :: S => some (pc + len, L, .long x :: .long x :: S, k, n, H)
    | v :: w :: S => if v.category = 1 ∧ w.category = 1 then some (pc + len, L, v :: w :: v :: w :: S, k, n, H) else none
    | _ => none
  | .pop => match S with | v :: S => if v.category = 1 then some (pc + len, L, S, k, n, H) else none | _ => none
  | .goto o => (jmp pc o).map fun q => (q, L, S, k, n, H)
  | .ifCond c o => match S with | .int x :: S => if ifCond.holds c x = true then (jmp pc o).map fun q => (q, L, S, k, n, H) else some (pc + len, L, S, k, n, H) | _ => none
  | .if_icmp c o => match S with | .int y :: .int x :: S => if if_icmp.holds c x y = true then (jmp pc o).map fun q => (q, L, S, k, n, H) else some (pc + len, L, S, k, n, H) | _ => none
  | .tableswitch d lo hi os => match S with
    | .int x :: S => if x.toInt < lo ∨ x.toInt > hi then (jmp pc d).map fun q => (q, L, S, k, n, H) else (os[(x.toInt - lo).toNat]?).bind fun o => (jmp pc o).map fun q => (q, L, S, k, n, H)
    | _ => none
  | .getfield _ => match S with | .ref a :: S => if isO H a = true then some (pc + len, L, fld H a aux.toNat :: S, k, n, H) else none | _ => none
  | .putfield _ => match S with | v :: .ref a :: S => if isOw H a = true ∧ okv (P.2.2.1 aux.toNat) v = true then some (pc + len, L, S, k, n, wr H a aux.toNat v) else none | _ => none
  | .iaload => match S with | .int i :: .ref a :: S => if inA H a .int i = true then some (pc + len, L, elt H a i :: S, k, n, H) else none | _ => none
  | .laload => match S with | .int i :: .ref a :: S => if inA H a .long i = true then some (pc + len, L, elt H a i :: S, k, n, H) else none | _ => none
  | .baload => match S with | .int i :: .ref a :: S => if inA H a .byte i = true ∨ inA H a .boolean i = true then some (pc + len, L, elt H a i :: S, k, n, H) else none | _ => none
  | .iastore => match S with | .int x :: .int i :: .ref a :: S => if inAw H a .int i = true then some (pc + len, L, S, k, n, wr H a i.toNatClampNeg (.int x)) else none | _ => none
  | .lastore => match S with | .long x :: .int i :: .ref a :: S => if inAw H a .long i = true then some (pc + len, L, S, k, n, wr H a i.toNatClampNeg (.long x)) else none | _ => none
  | .bastore => match S with
    | .int x :: .int i :: .ref a :: S => if (inAw H a .byte i = true ∧ okv .byte (.int x) = true) ∨ (inAw H a .boolean i = true ∧ okv .boolean (.int x) = true) then some (pc + len, L, S, k, n, wr H a i.toNatClampNeg (.int x)) else none
    | _ => none
  | .arraylength => match S with | .ref a :: S => if isA H a = true then some (pc + len, L, .int (alen H a).toInt32 :: S, k, n, H) else none | _ => none
  | .newarray t => match S with | .int c :: S => if ¬ c < 0 ∧ c.toNatClampNeg * 8 ≤ 536870912 ∧ k + 1 ≤ (rm P m).cells ∧ n + c.toNatClampNeg ≤ (rm P m).slots then some (pc + len, L, .ref H.1 :: S, k + 1, n + c.toNatClampNeg, mkA (newarray.typeOf t) c.toNatClampNeg H) else none | _ => none
  | .new _ => if 0 ≤ aux ∧ k + 1 ≤ (rm P m).cells ∧ n + aux.toNat ≤ (rm P m).slots then some (pc + len, L, .ref H.1 :: S, k + 1, n + aux.toNat, mkO P H) else none
  | .invokespecial _ => match S with | .ref a :: S => if aux = -1 ∧ 1 ≤ (rm P m).frames ∧ cs S + 12 ≤ (rm P m).locals then some (pc + len, L, S, k, n, H) else none | _ => none
  | _ => none
def run (P : Prog) : Nat → Nat → Nat → List Slot → List Value → Nat → Nat → AH → Option (Option Value × AH)
  | 0, _, _, _, _, _, _, _ => none
  | f + 1, m, pc, L, S, k, n, H =>
    match P.1 m pc with
    | none => none
    | some d =>
      match ret P m d.1 S with
      | some v => some (v, H)
      | none => match cal P m d.1 d.2.2 S k n H with
        | some c => match run P f c.1 0 (ent P c.1 c.2.1) [] 0 0 H with
          | none => none
          | some r => run P f m (pc + d.2.1) L (r.1.toList ++ c.2.2) (k + (rm P c.1).cells) (n + (rm P c.1).slots) r.2
        | none => match stp P m d.1 d.2.1 d.2.2 pc L S k n H with
          | none => none
          | some q => run P f m q.1 q.2.1 q.2.2.1 q.2.2.2.1 q.2.2.2.2.1 q.2.2.2.2.2
end Jvm.JX

namespace Jvm.JX
open Sem ClassFile Op Lib
section
variable {P : Prog}
theorem run_succ (f m pc : Nat) (L : List Slot) (S : List Value) (k n : Nat) (H : AH) : run P (f + 1) m pc L S k n H =
    match P.1 m pc with
    | none => none
    | some d =>
      match ret P m d.1 S with
      | some v => some (v, H)
      | none => match cal P m d.1 d.2.2 S k n H with
        | some c => match run P f c.1 0 (ent P c.1 c.2.1) [] 0 0 H with
          | none => none
          | some r => run P f m (pc + d.2.1) L (r.1.toList ++ c.2.2) (k + (rm P c.1).cells) (n + (rm P c.1).slots) r.2
        | none => match stp P m d.1 d.2.1 d.2.2 pc L S k n H with
          | none => none
          | some q => run P f m q.1 q.2.1 q.2.2.1 q.2.2.2.1 q.2.2.2.2.1 q.2.2.2.2.2 := rfl
theorem run_mono : ∀ (f m pc : Nat) (L : List Slot) (S : List Value) (k n : Nat) (H : AH) (r : Option Value × AH), run P f m pc L S k n H = some r → run P (f + 1) m pc L S k n H = some r := by
  intro f
  induction f with
  | zero => intro m pc L S k n H r h; cases h
  | succ f ih =>
    intro m pc L S k n H r h
    rw [run_succ] at h ⊢
    cases hd : P.1 m pc with
    | none => rw [hd] at h; cases h
    | some d =>
      rw [hd] at h
      simp only at h ⊢
      cases hr : ret P m d.1 S with
      | some v => rw [hr] at h; exact h
      | none =>
        rw [hr] at h
        simp only at h ⊢
        cases hc : cal P m d.1 d.2.2 S k n H with
        | some c =>
          rw [hc] at h
          simp only at h ⊢
          cases hq : run P f c.1 0 (ent P c.1 c.2.1) [] 0 0 H with
          | none => rw [hq] at h; cases h
          | some q =>
            rw [hq] at h
            rw [ih _ _ _ _ _ _ _ _ hq]
            exact ih _ _ _ _ _ _ _ _ h
        | none =>
          rw [hc] at h
          simp only at h ⊢
          cases hs : stp P m d.1 d.2.1 d.2.2 pc L S k n H with
          | none => rw [hs] at h; cases h
          | some q => rw [hs] at h; exact ih _ _ _ _ _ _ _ _ h
theorem run_le {f g : Nat} (hfg : f ≤ g) {m pc : Nat} {L : List Slot} {S : List Value} {k n : Nat} {H : AH} {r : Option Value × AH} (h : run P f m pc L S k n H = some r) : run P g m pc L S k n H = some r := by
  induction hfg with
  | refl => exact h
  | step _ ih => exact run_mono _ _ _ _ _ _ _ _ _ ih
end
def W (P : Prog) (m pc : Nat) (L : List Slot) (S : List Value) (k n : Nat) (H : AH) (Q : Option Value → AH → Prop) : Prop := ∃ f v H', run P f m pc L S k n H = some (v, H') ∧ Q v H'
def Cl (P : Prog) (m : Nat) (a : List Value) (H : AH) (Q : Option Value → AH → Prop) : Prop := W P m 0 (ent P m a) [] 0 0 H Q
section Rules
variable {P : Prog} {m pc : Nat} {L : List Slot} {S : List Value} {k n : Nat} {H : AH} {Q : Option Value → AH → Prop} {ins : Instr} {len : Nat} {aux : Int}
theorem W_r {v : Option Value} (hd : P.1 m pc = some (ins, len, aux)) (hr : ret P m ins S = some v) : W P m pc L S k n H Q ↔ Q v H := by
  constructor
  · rintro ⟨f, v', H', h1, h2⟩
    cases f with
    | zero => cases h1
    | succ f => rw [run_succ, hd] at h1; simp only [hr] at h1; cases h1; exact h2
  · intro h
    refine ⟨1, v, H, ?_, h⟩
    rw [run_succ, hd]; simp only [hr]
theorem W_c {m' : Nat} {a r : List Value} (hd : P.1 m pc = some (ins, len, aux)) (hr : ret P m ins S = none) (hc : cal P m ins aux S k n H = some (m', a, r)) :
    W P m pc L S k n H Q ↔ Cl P m' a H (fun v H' => W P m (pc + len) L (v.toList ++ r) (k + (rm P m').cells) (n + (rm P m').slots) H' Q) := by
  constructor
  · rintro ⟨f, v', H', h1, h2⟩
    cases f with
    | zero => cases h1
    | succ f =>
      rw [run_succ, hd] at h1; simp only [hr, hc] at h1
      cases hq : run P f m' 0 (ent P m' a) [] 0 0 H with
      | none => rw [hq] at h1; cases h1
      | some q => rw [hq] at h1; exact ⟨f, q.1, q.2, hq, f, v', H', h1, h2⟩
  · rintro ⟨f, v, H', h1, g, v', H'', h2, h3⟩
    refine ⟨max f g + 1, v', H'', ?_, h3⟩
    rw [run_succ, hd]; simp only [hr, hc]
    rw [run_le (Nat.le_max_left f g) h1]
    exact run_le (Nat.le_max_right f g) h2
theorem W_q (hd : P.1 m pc = some (ins, len, aux)) (hr : ret P m ins S = none) (hc : cal P m ins aux S k n H = none) :
    W P m pc L S k n H Q ↔ ∃ q, stp P m ins len aux pc L S k n H = some q ∧ W P m q.1 q.2.1 q.2.2.1 q.2.2.2.1 q.2.2.2.2.1 q.2.2.2.2.2 Q := by
  constructor
  · rintro ⟨f, v', H', h1, h2⟩
    cases f with
    | zero => cases h1
    | succ f =>
      rw [run_succ, hd] at h1; simp only [hr, hc] at h1
      cases hq : stp P m ins len aux pc L S k n H with
      | none => rw [hq] at h1; cases h1
      | some q => rw [hq] at h1; exact ⟨q, rfl, f, v', H', h1, h2⟩
  · rintro ⟨q, hq, f, v', H', h1, h2⟩
    refine ⟨f + 1, v', H', ?_, h2⟩
    rw [run_succ, hd]; simp only [hr, hc, hq]; exact h1
theorem W_s {pc' : Nat} {L' : List Slot} {S' : List Value} {k' n' : Nat} {H' : AH} (hd : P.1 m pc = some (ins, len, aux)) (hr : ret P m ins S = none) (hc : cal P m ins aux S k n H = none)
    (hs : stp P m ins len aux pc L S k n H = some (pc', L', S', k', n', H')) : W P m pc L S k n H Q ↔ W P m pc' L' S' k' n' H' Q := by
  rw [W_q hd hr hc, hs]
  exact ⟨fun ⟨q, e, h⟩ => by cases e; exact h, fun h => ⟨_, rfl, h⟩⟩
theorem W_g {G : Prop} [Decidable G] {pc' : Nat} {L' : List Slot} {S' : List Value} {k' n' : Nat} {H' : AH} (hd : P.1 m pc = some (ins, len, aux)) (hr : ret P m ins S = none) (hc : cal P m ins aux S k n H = none)
    (hs : stp P m ins len aux pc L S k n H = if G then some (pc', L', S', k', n', H') else none) : W P m pc L S k n H Q ↔ (G ∧ W P m pc' L' S' k' n' H' Q) := by
  rw [W_q hd hr hc, hs]
  by_cases g : G
  · rw [if_pos g]; exact ⟨fun ⟨q, e, h⟩ => by cases e; exact ⟨g, h⟩, fun h => ⟨_, rfl, h.2⟩⟩
  · rw [if_neg g]; exact ⟨fun ⟨q, e, h⟩ => (by cases e), fun h => absurd h.1 g⟩
theorem W_n {G : Prop} [Decidable G] {pc' : Nat} {L' : List Slot} {S' : List Value} {k' n' : Nat} {H' : AH} (hd : P.1 m pc = some (ins, len, aux)) (hr : ret P m ins S = none) (hc : cal P m ins aux S k n H = none)
    (hs : stp P m ins len aux pc L S k n H = if G then none else some (pc', L', S', k', n', H')) : W P m pc L S k n H Q ↔ (¬ G ∧ W P m pc' L' S' k' n' H' Q) := by
  rw [W_q hd hr hc, hs]
  by_cases g : G
  · rw [if_pos g]; exact ⟨fun ⟨q, e, h⟩ => (by cases e), fun h => absurd g h.1⟩
  · rw [if_neg g]; exact ⟨fun ⟨q, e, h⟩ => by cases e; exact ⟨g, h⟩, fun h => ⟨_, rfl, h.2⟩⟩
theorem W_f {G : Prop} [Decidable G] {q1 q2 : Fm} (hd : P.1 m pc = some (ins, len, aux)) (hr : ret P m ins S = none) (hc : cal P m ins aux S k n H = none)
    (hs : stp P m ins len aux pc L S k n H = if G then some q1 else some q2) : W P m pc L S k n H Q ↔ (if G then W P m q1.1 q1.2.1 q1.2.2.1 q1.2.2.2.1 q1.2.2.2.2.1 q1.2.2.2.2.2 Q else W P m q2.1 q2.2.1 q2.2.2.1 q2.2.2.2.1 q2.2.2.2.2.1 q2.2.2.2.2.2 Q) := by
  rw [W_q hd hr hc, hs]
  by_cases g : G
  · rw [if_pos g, if_pos g]; exact ⟨fun ⟨q, e, h⟩ => by cases e; exact h, fun h => ⟨_, rfl, h⟩⟩
  · rw [if_neg g, if_neg g]; exact ⟨fun ⟨q, e, h⟩ => by cases e; exact h, fun h => ⟨_, rfl, h⟩⟩
section Cmp
variable {x y : Int32} {o : Int} {q : Nat}
theorem W_icmp_ne (hd : P.1 m pc = some (.if_icmp .ne o, len, aux)) (hj : jmp pc o = some q) : W P m pc L (.int y :: .int x :: S) k n H Q ↔ (if x = y then W P m (pc + len) L S k n H Q else W P m q L S k n H Q) :=
  W_f (G := x = y) (q1 := (pc + len, L, S, k, n, H)) (q2 := (q, L, S, k, n, H)) hd rfl rfl (by simp only [stp, hj, if_icmp.holds]; by_cases h : x = y <;> simp [h])
theorem W_icmp_lt (hd : P.1 m pc = some (.if_icmp .lt o, len, aux)) (hj : jmp pc o = some q) : W P m pc L (.int y :: .int x :: S) k n H Q ↔ (if x < y then W P m q L S k n H Q else W P m (pc + len) L S k n H Q) :=
  W_f (G := x < y) (q1 := (q, L, S, k, n, H)) (q2 := (pc + len, L, S, k, n, H)) hd rfl rfl (by
    by_cases h : x < y
    · simp [stp, hj, Jvm.Free.XT.ii_lt_t h, h]
    · simp [stp, hj, Jvm.Free.XT.ii_lt_f h, h])
theorem W_icmp_ge (hd : P.1 m pc = some (.if_icmp .ge o, len, aux)) (hj : jmp pc o = some q) : W P m pc L (.int y :: .int x :: S) k n H Q ↔ (if x < y then W P m (pc + len) L S k n H Q else W P m q L S k n H Q) :=
  W_f (G := x < y) (q1 := (pc + len, L, S, k, n, H)) (q2 := (q, L, S, k, n, H)) hd rfl rfl (by
    by_cases h : x < y
    · simp [stp, hj, Jvm.Free.XT.ii_ge_f h, h]
    · simp [stp, hj, Jvm.Free.XT.ii_ge_t h, h])
theorem W_icmp_gt (hd : P.1 m pc = some (.if_icmp .gt o, len, aux)) (hj : jmp pc o = some q) : W P m pc L (.int y :: .int x :: S) k n H Q ↔ (if y < x then W P m q L S k n H Q else W P m (pc + len) L S k n H Q) :=
  W_f (G := y < x) (q1 := (q, L, S, k, n, H)) (q2 := (pc + len, L, S, k, n, H)) hd rfl rfl (by
    by_cases h : y < x
    · simp [stp, hj, Jvm.Free.XT.ii_gt_t h, h]
    · simp [stp, hj, Jvm.Free.XT.ii_gt_f h, h])
theorem W_icmp_le (hd : P.1 m pc = some (.if_icmp .le o, len, aux)) (hj : jmp pc o = some q) : W P m pc L (.int y :: .int x :: S) k n H Q ↔ (if y < x then W P m (pc + len) L S k n H Q else W P m q L S k n H Q) :=
  W_f (G := y < x) (q1 := (pc + len, L, S, k, n, H)) (q2 := (q, L, S, k, n, H)) hd rfl rfl (by
    by_cases h : y < x
    · simp [stp, hj, Jvm.Free.XT.ii_le_f h, h]
    · simp [stp, hj, Jvm.Free.XT.ii_le_t h, h])
theorem W_if_eq (hd : P.1 m pc = some (.ifCond .eq o, len, aux)) (hj : jmp pc o = some q) : W P m pc L (.int x :: S) k n H Q ↔ (if x = 0 then W P m q L S k n H Q else W P m (pc + len) L S k n H Q) :=
  W_f (G := x = 0) (q1 := (q, L, S, k, n, H)) (q2 := (pc + len, L, S, k, n, H)) hd rfl rfl (by
    by_cases h : x = 0
    · have e := Jvm.Free.XT.i0_eq_t h; simp only [stp, hj, e, if_pos h, if_true, Option.map_some]
    · simp [stp, hj, Jvm.Free.XT.i0_eq_f h, h])
theorem W_if_ne (hd : P.1 m pc = some (.ifCond .ne o, len, aux)) (hj : jmp pc o = some q) : W P m pc L (.int x :: S) k n H Q ↔ (if x = 0 then W P m (pc + len) L S k n H Q else W P m q L S k n H Q) :=
  W_f (G := x = 0) (q1 := (pc + len, L, S, k, n, H)) (q2 := (q, L, S, k, n, H)) hd rfl rfl (by
    by_cases h : x = 0
    · have e := Jvm.Free.XT.i0_ne_f h; simp only [stp, hj, e, if_pos h, Bool.false_eq_true, if_false]
    · simp [stp, hj, Jvm.Free.XT.i0_ne_t h, h])
theorem W_if_lt (hd : P.1 m pc = some (.ifCond .lt o, len, aux)) (hj : jmp pc o = some q) : W P m pc L (.int x :: S) k n H Q ↔ (if x < 0 then W P m q L S k n H Q else W P m (pc + len) L S k n H Q) :=
  W_f (G := x < 0) (q1 := (q, L, S, k, n, H)) (q2 := (pc + len, L, S, k, n, H)) hd rfl rfl (by
    by_cases h : x < 0
    · simp [stp, hj, Jvm.Free.XT.i0_lt_t h, h]
    · simp [stp, hj, Jvm.Free.XT.i0_lt_f h, h])
theorem W_if_ge (hd : P.1 m pc = some (.ifCond .ge o, len, aux)) (hj : jmp pc o = some q) : W P m pc L (.int x :: S) k n H Q ↔ (if x < 0 then W P m (pc + len) L S k n H Q else W P m q L S k n H Q) :=
  W_f (G := x < 0) (q1 := (pc + len, L, S, k, n, H)) (q2 := (q, L, S, k, n, H)) hd rfl rfl (by
    by_cases h : x < 0
    · simp [stp, hj, Jvm.Free.XT.i0_ge_f h, h]
    · simp [stp, hj, Jvm.Free.XT.i0_ge_t h, h])
theorem W_if_gt (hd : P.1 m pc = some (.ifCond .gt o, len, aux)) (hj : jmp pc o = some q) : W P m pc L (.int x :: S) k n H Q ↔ (if 0 < x then W P m q L S k n H Q else W P m (pc + len) L S k n H Q) :=
  W_f (G := 0 < x) (q1 := (q, L, S, k, n, H)) (q2 := (pc + len, L, S, k, n, H)) hd rfl rfl (by
    by_cases h : 0 < x
    · simp [stp, hj, Jvm.Free.XT.i0_gt_t h, h]
    · simp [stp, hj, Jvm.Free.XT.i0_gt_f h, h])
theorem W_if_le (hd : P.1 m pc = some (.ifCond .le o, len, aux)) (hj : jmp pc o = some q) : W P m pc L (.int x :: S) k n H Q ↔ (if 0 < x then W P m (pc + len) L S k n H Q else W P m q L S k n H Q) :=
  W_f (G := 0 < x) (q1 := (pc + len, L, S, k, n, H)) (q2 := (q, L, S, k, n, H)) hd rfl rfl (by
    by_cases h : 0 < x
    · simp [stp, hj, Jvm.Free.XT.i0_le_f h, h]
    · simp [stp, hj, Jvm.Free.XT.i0_le_t h, h])
theorem W_goto (hd : P.1 m pc = some (.goto o, len, aux)) (hj : jmp pc o = some q) : W P m pc L S k n H Q ↔ W P m q L S k n H Q := W_s hd rfl rfl (by simp [stp, hj])
end Cmp
section Sto
variable {i : Nat} {o o2 : Slot} {x y : Int32} {v : Value} {l : Int64} {a : Nat}
theorem stl_plain (h : L[i]? = some o) (ho : cat1 o = true) : stl L i v = some (L.set i (.val v)) := by
  unfold stl
  rw [h]
  cases o with
  | unset => rfl
  | second => cases ho
  | val w => simp only [cat1, beq_iff_eq] at ho; simp [ho]
theorem stL_plain (h : L[i]? = some o) (h2 : L[i + 1]? = some o2) (ho : cat1 o = true) (ho2 : cat1 o2 = true) : stL L i v = some ((L.set i (.val v)).set (i + 1) .second) := by
  unfold stL
  rw [h, h2]
  cases o with
  | unset => simp [ho2]
  | second => cases ho
  | val w => simp only [cat1, beq_iff_eq] at ho; simp [ho, ho2]
theorem stL_again (h : L[i]? = some (.val (.long l))) (h2 : L[i + 1]? = some o2) : stL L i v = some ((L.set i (.val v)).set (i + 1) .second) := by
  unfold stL
  rw [h, h2]; simp [Value.category]
theorem W_ist (hd : P.1 m pc = some (.istore i, len, aux)) (h : L[i]? = some o) (ho : cat1 o = true) : W P m pc L (.int x :: S) k n H Q ↔ W P m (pc + len) (L.set i (.val (.int x))) S k n H Q := W_s hd rfl rfl (by simp [stp, stl_plain h ho])
theorem W_istn {i : Fin 4} (hd : P.1 m pc = some (.istore_n i, len, aux)) (h : L[i.val]? = some o) (ho : cat1 o = true) : W P m pc L (.int x :: S) k n H Q ↔ W P m (pc + len) (L.set i.val (.val (.int x))) S k n H Q := W_s hd rfl rfl (by simp [stp, stl_plain h ho])
theorem W_astn {i : Fin 4} (hd : P.1 m pc = some (.astore_n i, len, aux)) (h : L[i.val]? = some o) (ho : cat1 o = true) : W P m pc L (.ref a :: S) k n H Q ↔ W P m (pc + len) (L.set i.val (.val (.ref a))) S k n H Q := W_s hd rfl rfl (by simp [stp, stl_plain h ho])
theorem W_lst (hd : P.1 m pc = some (.lstore i, len, aux)) (h : L[i]? = some o) (h2 : L[i + 1]? = some o2) (ho : cat1 o = true) (ho2 : cat1 o2 = true) : W P m pc L (.long l :: S) k n H Q ↔ W P m (pc + len) ((L.set i (.val (.long l))).set (i + 1) .second) S k n H Q := W_s hd rfl rfl (by simp [stp, stL_plain h h2 ho ho2])
theorem W_lstn {i : Fin 4} (hd : P.1 m pc = some (.lstore_n i, len, aux)) (h : L[i.val]? = some o) (h2 : L[i.val + 1]? = some o2) (ho : cat1 o = true) (ho2 : cat1 o2 = true) : W P m pc L (.long l :: S) k n H Q ↔ W P m (pc + len) ((L.set i.val (.val (.long l))).set (i.val + 1) .second) S k n H Q := W_s hd rfl rfl (by simp [stp, stL_plain h h2 ho ho2])
theorem W_lst' {l' : Int64} (hd : P.1 m pc = some (.lstore i, len, aux)) (h : L[i]? = some (.val (.long l'))) (h2 : L[i + 1]? = some o2) : W P m pc L (.long l :: S) k n H Q ↔ W P m (pc + len) ((L.set i (.val (.long l))).set (i + 1) .second) S k n H Q := W_s hd rfl rfl (by simp [stp, stL_again h h2])
theorem cs_nil : cs [] = 0 := by simp [cs]
theorem cs_ref : cs (.ref a :: S) = 1 + cs S := by simp [cs, Value.category]
end Sto
section Heap
variable {a j : Nat} {i x c : Int32} {v : Value} {l : Int64}
theorem W_getf {ix : Nat} (hd : P.1 m pc = some (.getfield ix, len, aux)) : W P m pc L (.ref a :: S) k n H Q ↔ (isO H a = true ∧ W P m (pc + len) L (fld H a aux.toNat :: S) k n H Q) := W_g hd rfl rfl rfl
theorem W_putf {ix : Nat} (hd : P.1 m pc = some (.putfield ix, len, aux)) : W P m pc L (v :: .ref a :: S) k n H Q ↔ ((isOw H a = true ∧ okv (P.2.2.1 aux.toNat) v = true) ∧ W P m (pc + len) L S k n (wr H a aux.toNat v) Q) := W_g hd rfl rfl rfl
theorem W_iaload (hd : P.1 m pc = some (.iaload, len, aux)) : W P m pc L (.int i :: .ref a :: S) k n H Q ↔ (inA H a .int i = true ∧ W P m (pc + len) L (elt H a i :: S) k n H Q) := W_g hd rfl rfl rfl
theorem W_laload (hd : P.1 m pc = some (.laload, len, aux)) : W P m pc L (.int i :: .ref a :: S) k n H Q ↔ (inA H a .long i = true ∧ W P m (pc + len) L (elt H a i :: S) k n H Q) := W_g hd rfl rfl rfl
theorem W_baload (hd : P.1 m pc = some (.baload, len, aux)) : W P m pc L (.int i :: .ref a :: S) k n H Q ↔ ((inA H a .byte i = true ∨ inA H a .boolean i = true) ∧ W P m (pc + len) L (elt H a i :: S) k n H Q) := W_g hd rfl rfl rfl
theorem W_iastore (hd : P.1 m pc = some (.iastore, len, aux)) : W P m pc L (.int x :: .int i :: .ref a :: S) k n H Q ↔ (inAw H a .int i = true ∧ W P m (pc + len) L S k n (wr H a i.toNatClampNeg (.int x)) Q) := W_g hd rfl rfl rfl
theorem W_lastore (hd : P.1 m pc = some (.lastore, len, aux)) : W P m pc L (.long l :: .int i :: .ref a :: S) k n H Q ↔ (inAw H a .long i = true ∧ W P m (pc + len) L S k n (wr H a i.toNatClampNeg (.long l)) Q) := W_g hd rfl rfl rfl
theorem W_bastore (hd : P.1 m pc = some (.bastore, len, aux)) : W P m pc L (.int x :: .int i :: .ref a :: S) k n H Q ↔ (((inAw H a .byte i = true ∧ okv .byte (.int x) = true) ∨ (inAw H a .boolean i = true ∧ okv .boolean (.int x) = true)) ∧ W P m (pc + len) L S k n (wr H a i.toNatClampNeg (.int x)) Q) := W_g hd rfl rfl rfl
theorem W_alen (hd : P.1 m pc = some (.arraylength, len, aux)) : W P m pc L (.ref a :: S) k n H Q ↔ (isA H a = true ∧ W P m (pc + len) L (.int (alen H a).toInt32 :: S) k n H Q) := W_g hd rfl rfl rfl
theorem W_newarr {t : ArrayType} (hd : P.1 m pc = some (.newarray t, len, aux)) : W P m pc L (.int c :: S) k n H Q ↔ ((¬ c < 0 ∧ c.toNatClampNeg * 8 ≤ 536870912 ∧ k + 1 ≤ (rm P m).cells ∧ n + c.toNatClampNeg ≤ (rm P m).slots) ∧ W P m (pc + len) L (.ref H.1 :: S) (k + 1) (n + c.toNatClampNeg) (mkA (newarray.typeOf t) c.toNatClampNeg H) Q) := W_g hd rfl rfl rfl
theorem W_new {ix : Nat} (hd : P.1 m pc = some (.new ix, len, aux)) : W P m pc L S k n H Q ↔ ((0 ≤ aux ∧ k + 1 ≤ (rm P m).cells ∧ n + aux.toNat ≤ (rm P m).slots) ∧ W P m (pc + len) L (.ref H.1 :: S) (k + 1) (n + aux.toNat) (mkO P H) Q) := W_g hd rfl rfl rfl
theorem W_oinit {ix : Nat} (hd : P.1 m pc = some (.invokespecial ix, len, -1)) : W P m pc L (.ref a :: S) k n H Q ↔ ((1 ≤ (rm P m).frames ∧ cs S + 12 ≤ (rm P m).locals) ∧ W P m (pc + len) L S k n H Q) :=
  W_g (G := 1 ≤ (rm P m).frames ∧ cs S + 12 ≤ (rm P m).locals) hd rfl (by simp [cal, cal1]) (by simp [stp])
theorem W_irem {y : Int32} (hd : P.1 m pc = some (.irem, len, aux)) : W P m pc L (.int y :: .int x :: S) k n H Q ↔ (¬ y = 0 ∧ W P m (pc + len) L (.int (x % y) :: S) k n H Q) := W_n hd rfl rfl rfl
theorem W_lrem {l' : Int64} (hd : P.1 m pc = some (.lrem, len, aux)) : W P m pc L (.long l' :: .long l :: S) k n H Q ↔ (¬ l' = 0 ∧ W P m (pc + len) L (.long (l % l') :: S) k n H Q) := W_n hd rfl rfl rfl
end Heap
section Call
variable {m' : Nat} {a r : List Value} {b : Nat}
theorem cal_eq (hk : kindOk ins (kd P m') = true) (hl : a.length = na P m') : cal P m ins (m' : Int) (a.reverse ++ r) k n H = if may P m m' a r k n H = true then some (m', a, r) else none := by
  have e1 : (a.reverse ++ r).take (na P m') = a.reverse := by rw [← hl, ← List.length_reverse (as := a)]; exact List.take_left ..
  have e2 : (a.reverse ++ r).drop (na P m') = r := by rw [← hl, ← List.length_reverse (as := a)]; exact List.drop_left ..
  have key : cal1 P m ins (m' : Int) (a.reverse ++ r) k n H = if may P m m' a r k n H = true then some (m', a, r) else none := by
    unfold cal1
    rw [Int.toNat_natCast, e1, e2, List.reverse_reverse]
    simp [hk]
  cases ins <;> first | exact key | (cases hk)
theorem W_call (hd : P.1 m pc = some (ins, len, (m' : Int))) (hr : ret P m ins S = none) (hk : kindOk ins (kd P m') = true) (hl : a.length = na P m') (hS : S = a.reverse ++ r) (hns : stp P m ins len (m' : Int) pc L S k n H = none) :
    W P m pc L S k n H Q ↔ (may P m m' a r k n H = true ∧ Cl P m' a H (fun v H' => W P m (pc + len) L (v.toList ++ r) (k + (rm P m').cells) (n + (rm P m').slots) H' Q)) := by
  have hc : cal P m ins (m' : Int) S k n H = if may P m m' a r k n H = true then some (m', a, r) else none := by rw [hS]; exact cal_eq hk hl
  by_cases g : may P m m' a r k n H = true
  · rw [if_pos g] at hc
    rw [W_c hd hr hc]; simp [g]
  · rw [if_neg g] at hc
    rw [W_q hd hr hc, hns]
    exact ⟨fun ⟨q, e, h⟩ => (by cases e), fun h => absurd h.1 g⟩
theorem W_inst {ix : Nat} {as : List Value} (hd : P.1 m pc = some (.invokevirtual ix, len, (m' : Int))) (hk : kindOk (.invokevirtual ix) (kd P m') = true) (hl : as.length + 1 = na P m') (hS : S = as.reverse ++ .ref b :: r)
    (h1 : (Sym.laidSlots (.ref b :: as)).length ≤ ml P m') (h2 : (rm P m').frames + 1 ≤ (rm P m).frames) (h3 : (rm P m').cells = 0 ∧ (rm P m').slots = 0) :
    W P m pc L S k n H Q ↔ ((isO H b = true ∧ cs r + (ml P m' + 11) + (rm P m').locals ≤ (rm P m).locals) ∧ Cl P m' (.ref b :: as) H (fun v H' => W P m (pc + len) L (v.toList ++ r) k n H' Q)) := by
  rw [W_call (a := .ref b :: as) (r := r) hd rfl hk hl (by rw [hS]; simp) rfl]
  have e : may P m m' (.ref b :: as) r k n H = true ↔ (isO H b = true ∧ cs r + (ml P m' + 11) + (rm P m').locals ≤ (rm P m).locals) := by
    have hk0 : kd P m' ≠ 0 := by intro h; rw [h] at hk; cases hk
    simp [may, rcv, h1, h2, h3, ← hl, hk0]; exact And.comm
  rw [e, h3.1, h3.2]; rfl
theorem W_stat {ix : Nat} (hd : P.1 m pc = some (.invokestatic ix, len, (m' : Int))) (hk : kindOk (.invokestatic ix) (kd P m') = true) (hl : a.length = na P m') (hS : S = a.reverse ++ r)
    (h1 : (Sym.laidSlots a).length ≤ ml P m') (h2 : (rm P m').frames + 1 ≤ (rm P m).frames) (h3 : (rm P m').cells = 0 ∧ (rm P m').slots = 0) :
    W P m pc L S k n H Q ↔ ((cs r + (ml P m' + 11) + (rm P m').locals ≤ (rm P m).locals) ∧ Cl P m' a H (fun v H' => W P m (pc + len) L (v.toList ++ r) k n H' Q)) := by
  rw [W_call (a := a) (r := r) hd rfl hk hl hS rfl]
  have e : may P m m' a r k n H = true ↔ (cs r + (ml P m' + 11) + (rm P m').locals ≤ (rm P m).locals) := by
    have hk0 : kd P m' = 0 := by simpa [kindOk] using hk
    simp [may, h1, h2, h3, hl, hk0]
  rw [e, h3.1, h3.2]; rfl
theorem W_init {ix : Nat} {as : List Value} (hd : P.1 m pc = some (.invokespecial ix, len, (m' : Int))) (hk : kindOk (.invokespecial ix) (kd P m') = true) (hl : as.length + 1 = na P m') (hS : S = as.reverse ++ .ref b :: r)
    (h1 : (Sym.laidSlots (.ref b :: as)).length ≤ ml P m') (h2 : (rm P m').frames + 1 ≤ (rm P m).frames) (h3 : ¬ ((rm P m').cells = 0 ∧ (rm P m').slots = 0)) :
    W P m pc L S k n H Q ↔ ((isO H b = true ∧ cs r + (ml P m' + 11) + (rm P m').locals ≤ (rm P m).locals ∧ k + (rm P m').cells ≤ (rm P m).cells ∧ n + (rm P m').slots ≤ (rm P m).slots) ∧ Cl P m' (.ref b :: as) H (fun v H' => W P m (pc + len) L (v.toList ++ r) (k + (rm P m').cells) (n + (rm P m').slots) H' Q)) := by
  have hns : stp P m (.invokespecial ix) len (m' : Int) pc L S k n H = none := by
    dsimp only [stp]
    split
    · rw [if_neg]; omega
    · rfl
  rw [W_call (a := .ref b :: as) (r := r) hd rfl hk hl (by rw [hS]; simp) hns]
  have e : may P m m' (.ref b :: as) r k n H = true ↔ (isO H b = true ∧ cs r + (ml P m' + 11) + (rm P m').locals ≤ (rm P m).locals ∧ k + (rm P m').cells ≤ (rm P m).cells ∧ n + (rm P m').slots ≤ (rm P m).slots) := by
    have hk0 : kd P m' ≠ 0 := by intro h; rw [h] at hk; cases hk
    simp only [may, rcv, h1, h2, h3, ← hl, hk0, List.length_cons, decide_true, decide_false, Bool.true_and, Bool.false_or, Bool.and_eq_true, decide_eq_true_eq]
    constructor
    · rintro ⟨⟨q1, q2⟩, q3⟩; exact ⟨q3, q1, q2⟩
    · rintro ⟨q3, q1, q2⟩; exact ⟨⟨q1, q2⟩, q3⟩
  rw [e]
end Call
section Last
theorem W_rz {x : Int32} (hd : P.1 m pc = some (.ireturn, len, aux)) (hr : rt P m = some .boolean) : W P m pc L (.int x :: S) k n H Q ↔ ((x = 0 ∨ x = 1) ∧ Q (some (.int x)) H) := by
  by_cases g : x = 0 ∨ x = 1
  · rw [W_r hd (by simp only [ret, hr]; rw [if_pos g])]; simp [g]
  · rw [W_q hd (by simp only [ret, hr]; rw [if_neg g]) rfl]
    constructor
    · rintro ⟨q, e, -⟩; cases e
    · intro h; exact absurd h.1 g
theorem W_newarr' {t : ArrayType} {c : Int32} {N : Nat} (hd : P.1 m pc = some (.newarray t, len, aux)) (hN : c.toNatClampNeg = N) (h1 : ¬ c < 0) (h2 : N * 8 ≤ 536870912) :
    W P m pc L (.int c :: S) k n H Q ↔ ((k + 1 ≤ (rm P m).cells ∧ n + N ≤ (rm P m).slots) ∧ W P m (pc + len) L (.ref H.1 :: S) (k + 1) (n + N) (mkA (newarray.typeOf t) N H) Q) := by
  rw [W_newarr hd, hN]; simp [h1, h2]
theorem W_new' {ix : Nat} (hd : P.1 m pc = some (.new ix, len, aux)) (h0 : 0 ≤ aux) : W P m pc L S k n H Q ↔ ((k + 1 ≤ (rm P m).cells ∧ n + aux.toNat ≤ (rm P m).slots) ∧ W P m (pc + len) L (.ref H.1 :: S) (k + 1) (n + aux.toNat) (mkO P H) Q) := by
  rw [W_new hd]; simp [h0]
def tswW (f : Nat → Prop) (x : Int32) (d : Nat) : Int → List Nat → Prop
  | _, [] => f d
  | lo, q :: qs => if x = Int32.ofInt lo then f q else tswW f x d (lo + 1) qs
theorem tswW_eq (f : Nat → Prop) (x : Int32) (d : Nat) : ∀ (qs : List Nat) (lo : Int), -2147483648 ≤ lo → lo + qs.length ≤ 2147483648 → (tswW f x d lo qs ↔ f (if x.toInt < lo ∨ lo + qs.length ≤ x.toInt then d else qs.getD (x.toInt - lo).toNat d)) := by
  intro qs
  induction qs with
  | nil => intro lo h1 h2; simp only [tswW, List.length_nil]; rw [if_pos (by omega)]
  | cons q qs ih =>
    intro lo h1 h2
    simp only [List.length_cons] at h2 ⊢
    have hx : x = Int32.ofInt lo ↔ x.toInt = lo := by
      rw [← Int32.toInt_inj, Int32.toInt_ofInt_of_le (by omega) (by omega)]
    simp only [tswW]
    by_cases e : x.toInt = lo
    · rw [if_pos (hx.mpr e), if_neg (by omega)]
      have : (x.toInt - lo).toNat = 0 := by omega
      rw [this]; rfl
    · rw [if_neg (fun h => e (hx.mp h)), ih (lo + 1) (by omega) (by omega)]
      by_cases g : x.toInt < lo ∨ lo + ((qs.length : Int) + 1) ≤ x.toInt
      · rw [if_pos (by omega), if_pos (by omega)]
      · rw [if_neg (by omega), if_neg (by omega)]
        have : (x.toInt - lo).toNat = (x.toInt - (lo + 1)).toNat + 1 := by omega
        rw [this]; rfl
theorem W_tsw {x : Int32} {d lo hi : Int} {os : Array Int} {qs : List Nat} {dq : Nat} (hd : P.1 m pc = some (.tableswitch d lo hi os, len, aux)) (h0 : jmp pc d = some dq) (h1 : os.toList.map (jmp pc) = qs.map some) (h2 : -2147483648 ≤ lo ∧ lo + qs.length ≤ 2147483648 ∧ hi = lo + qs.length - 1) :
    W P m pc L (.int x :: S) k n H Q ↔ tswW (fun q => W P m q L S k n H Q) x dq lo qs := by
  rw [tswW_eq _ _ _ _ _ h2.1 h2.2.1]
  have hlen : os.size = qs.length := by have := congrArg List.length h1; simpa using this
  refine W_s hd rfl rfl ?_
  show (if x.toInt < lo ∨ x.toInt > hi then (jmp pc d).map fun q => (q, L, S, k, n, H) else (os[(x.toInt - lo).toNat]?).bind fun o => (jmp pc o).map fun q => (q, L, S, k, n, H)) = _
  by_cases g : x.toInt < lo ∨ x.toInt > hi
  · rw [if_pos g, if_pos (by omega), h0]; rfl
  · rw [if_neg g, if_neg (by omega)]
    have hi2 : (x.toInt - lo).toNat < qs.length := by omega
    have e1 : (os.toList.map (jmp pc))[(x.toInt - lo).toNat]? = some (some (qs.getD (x.toInt - lo).toNat dq)) := by
      rw [h1]; simp [hi2]
    rw [List.getElem?_map, Array.getElem?_toList] at e1
    obtain ⟨o, ho, hj⟩ := Option.map_eq_some_iff.mp e1
    rw [ho]; simp [hj]
theorem cmpL_lt {x y : Int64} : Jvm.Free.XT.cmpL x y < 0 ↔ x < y := by
  unfold Jvm.Free.XT.cmpL
  by_cases h1 : y < x
  · rw [if_pos h1]; exact ⟨fun h => absurd h (by decide), fun h => by rw [Int64.lt_iff_toInt_lt] at *; omega⟩
  · rw [if_neg h1]
    by_cases h2 : x = y
    · rw [if_pos h2]; exact ⟨fun h => absurd h (by decide), fun h => by subst h2; rw [Int64.lt_iff_toInt_lt] at *; omega⟩
    · rw [if_neg h2]; refine ⟨fun _ => ?_, fun _ => by decide⟩
      rw [Int64.lt_iff_toInt_lt] at *; rw [← Int64.toInt_inj] at h2; omega
theorem cmpL_gt {x y : Int64} : 0 < Jvm.Free.XT.cmpL x y ↔ y < x := by
  unfold Jvm.Free.XT.cmpL
  by_cases h1 : y < x
  · rw [if_pos h1]; exact ⟨fun _ => h1, fun _ => by decide⟩
  · rw [if_neg h1]
    by_cases h2 : x = y
    · rw [if_pos h2]; exact ⟨fun h => absurd h (by decide), fun h => absurd h h1⟩
    · rw [if_neg h2]; exact ⟨fun h => absurd h (by decide), fun h => absurd h h1⟩
theorem cmpL_eq {x y : Int64} : Jvm.Free.XT.cmpL x y = 0 ↔ x = y := by
  unfold Jvm.Free.XT.cmpL
  by_cases h1 : y < x
  · rw [if_pos h1]; exact ⟨fun h => absurd h (by decide), fun h => by subst h; rw [Int64.lt_iff_toInt_lt] at h1; omega⟩
  · rw [if_neg h1]
    by_cases h2 : x = y
    · rw [if_pos h2]; exact ⟨fun _ => h2, fun _ => rfl⟩
    · rw [if_neg h2]; exact ⟨fun h => absurd h (by decide), fun h => absurd h h2⟩
end Last
end Rules
abbrev LW : Type := (Nat → Nat → Option (Instr × Nat × Int)) × (Nat → MInfo)
abbrev Row : Type := Nat × Instr × Nat × Int
end Jvm.JX

namespace Jvm.JX
open Sem ClassFile Op Lib
abbrev St : Type := (Nat → Int32) × (Nat → Int64) × (Nat → Nat → Int32) × (Nat → Nat → Int64)
abbrev Lay : Type := List (FieldType × Nat) × List (FieldType × Nat)
def sI (s : St) (k : Nat) : Int32 := s.1 k
def sJ (s : St) (k : Nat) : Int64 := s.2.1 k
def sA (s : St) (t i : Nat) : Int32 := s.2.2.1 t i
def sB (s : St) (t i : Nat) : Int64 := s.2.2.2 t i
def uI (s : St) (k : Nat) (v : Int32) : St := (fun j => if j = k then v else s.1 j, s.2.1, s.2.2.1, s.2.2.2)
def uJ (s : St) (k : Nat) (v : Int64) : St := (s.1, fun j => if j = k then v else s.2.1 j, s.2.2.1, s.2.2.2)
def uA (s : St) (t i : Nat) (v : Int32) : St := (s.1, s.2.1, fun t' i' => if t' = t ∧ i' = i then v else s.2.2.1 t' i', s.2.2.2)
def uB (s : St) (t i : Nat) (v : Int64) : St := (s.1, s.2.1, s.2.2.1, fun t' i' => if t' = t ∧ i' = i then v else s.2.2.2 t' i')
def z0 : St := (fun _ => 0, fun _ => 0, fun _ _ => 0, fun _ _ => 0)
section St
variable {s : St} {k j t i t' i' : Nat} {v : Int32} {w : Int64}
theorem sI_uI : sI (uI s k v) j = if j = k then v else sI s j := by simp [sI, sJ, sA, sB, uI, uJ, uA, uB, z0]
theorem sI_uJ : sI (uJ s k w) j = sI s j := by simp [sI, sJ, sA, sB, uI, uJ, uA, uB, z0]
theorem sI_uA : sI (uA s t i v) j = sI s j := by simp [sI, sJ, sA, sB, uI, uJ, uA, uB, z0]
theorem sI_uB : sI (uB s t i w) j = sI s j := by simp [sI, sJ, sA, sB, uI, uJ, uA, uB, z0]
theorem sJ_uI : sJ (uI s k v) j = sJ s j := by simp [sI, sJ, sA, sB, uI, uJ, uA, uB, z0]
theorem sJ_uJ : sJ (uJ s k w) j = if j = k then w else sJ s j := by simp [sI, sJ, sA, sB, uI, uJ, uA, uB, z0]
theorem sJ_uA : sJ (uA s t i v) j = sJ s j := by simp [sI, sJ, sA, sB, uI, uJ, uA, uB, z0]
theorem sJ_uB : sJ (uB s t i w) j = sJ s j := by simp [sI, sJ, sA, sB, uI, uJ, uA, uB, z0]
theorem sA_uI : sA (uI s k v) t' i' = sA s t' i' := by simp [sI, sJ, sA, sB, uI, uJ, uA, uB, z0]
theorem sA_uJ : sA (uJ s k w) t' i' = sA s t' i' := by simp [sI, sJ, sA, sB, uI, uJ, uA, uB, z0]
theorem sA_uA : sA (uA s t i v) t' i' = if t' = t ∧ i' = i then v else sA s t' i' := by simp [sI, sJ, sA, sB, uI, uJ, uA, uB, z0]
theorem sA_uB : sA (uB s t i w) t' i' = sA s t' i' := by simp [sI, sJ, sA, sB, uI, uJ, uA, uB, z0]
theorem sB_uI : sB (uI s k v) t' i' = sB s t' i' := by simp [sI, sJ, sA, sB, uI, uJ, uA, uB, z0]
theorem sB_uJ : sB (uJ s k w) t' i' = sB s t' i' := by simp [sI, sJ, sA, sB, uI, uJ, uA, uB, z0]
theorem sB_uA : sB (uA s t i v) t' i' = sB s t' i' := by simp [sI, sJ, sA, sB, uI, uJ, uA, uB, z0]
theorem sB_uB : sB (uB s t i w) t' i' = if t' = t ∧ i' = i then w else sB s t' i' := by simp [sI, sJ, sA, sB, uI, uJ, uA, uB, z0]
theorem sI_z0 : sI z0 k = 0 := by simp [sI, sJ, sA, sB, uI, uJ, uA, uB, z0]
theorem sJ_z0 : sJ z0 k = 0 := by simp [sI, sJ, sA, sB, uI, uJ, uA, uB, z0]
theorem sA_z0 : sA z0 t i = 0 := by simp [sI, sJ, sA, sB, uI, uJ, uA, uB, z0]
theorem sB_z0 : sB z0 t i = 0 := by simp [sI, sJ, sA, sB, uI, uJ, uA, uB, z0]
theorem St_ext {s s' : St} (h1 : ∀ k, sI s k = sI s' k) (h2 : ∀ k, sJ s k = sJ s' k) (h3 : ∀ t i, sA s t i = sA s' t i) (h4 : ∀ t i, sB s t i = sB s' t i) : s = s' :=
  Prod.ext (funext h1) (Prod.ext (funext h2) (Prod.ext (funext fun t => funext (h3 t)) (funext fun t => funext (h4 t))))
end St
def zr (s : St) (t : Nat) : Prop := (∀ i, sA s t i = 0) ∧ ∀ i, sB s t i = 0
theorem zr_z0 {t : Nat} : zr z0 t = True := by simp [zr, sA_z0, sB_z0]
def fvl (y : Lay) (j p : Nat) (s : St) (k : Nat) : Value := match y.1[k]? with
  | some (.long, _) => .long (sJ s k)
  | some (.array _, t) => if t ≤ j then .ref (p + t) else .null
  | _ => .int (sI s k)
def blk (y : Lay) (j p : Nat) (s : St) : Nat → Cel
  | 0 => (.object "", y.1.length, true, fvl y j p s)
  | t + 1 => match y.2[t]? with
    | some (.long, n) => (.array .long, n, true, fun i => .long (sB s (t + 1) i))
    | some (ty, n) => (.array ty, n, true, fun i => .int (sA s (t + 1) i))
    | none => (.char, 0, false, fun _ => .null)
def put (y : Lay) (j : Nat) (H : AH) (p : Nat) (s : St) : AH := (H.1, fun a => if p ≤ a ∧ a ≤ p + j then blk y j p s (a - p) else H.2 a)
section Put
variable {y : Lay} {j : Nat} {H : AH} {p : Nat} {s : St} {k t n : Nat} {ty : FieldType} {i : Int32}
theorem put_0 : (put y j H p s).2 p = (.object "", y.1.length, true, fvl y j p s) := by simp [put, blk]
theorem put_t (ht : t ≤ j) : (put y j H p s).2 (p + t) = blk y j p s t := by simp [put, ht]
theorem put_ot {a : Nat} (h : a < p ∨ p + j < a) : (put y j H p s).2 a = H.2 a := by
  have : ¬ (p ≤ a ∧ a ≤ p + j) := by omega
  simp [put, this]
theorem isO_put : isO (put y j H p s) p = true := by simp [isO, put_0]
theorem isOw_put : isOw (put y j H p s) p = true := by simp [isOw, isO_put, put_0]
theorem fld_I (h : y.1[k]? = some (ty, t)) (hl : ty ≠ .long) (ha : ∀ e, ty ≠ .array e) : fld (put y j H p s) p k = .int (sI s k) := by
  simp only [fld, put_0, fvl, h]; cases ty <;> first | rfl | exact absurd rfl hl | exact absurd rfl (ha _)
theorem fld_J (h : y.1[k]? = some (.long, t)) : fld (put y j H p s) p k = .long (sJ s k) := by simp only [fld, put_0, fvl, h]
theorem fld_R (h : y.1[k]? = some (.array ty, t)) (ht : t ≤ j) : fld (put y j H p s) p k = .ref (p + t) := by simp only [fld, put_0, fvl, h, ht, if_true]
theorem blk_I (h : y.2[t]? = some (ty, n)) (hl : ty ≠ .long) : blk y j p s (t + 1) = (.array ty, n, true, fun i => .int (sA s (t + 1) i)) := by
  simp only [blk, h]
theorem blk_J (h : y.2[t]? = some (.long, n)) : blk y j p s (t + 1) = (.array .long, n, true, fun i => .long (sB s (t + 1) i)) := by simp only [blk, h]
theorem clamp_lt {i : Int32} {n : Nat} : (¬ i < 0 ∧ i.toNatClampNeg < n) ↔ (0 ≤ i.toInt ∧ i.toInt < n) := by
  simp only [Int32.lt_iff_toInt_lt, Int32.toNatClampNeg, Int32.reduceToInt]; omega
theorem inA_I (h : y.2[t]? = some (ty, n)) (hl : ty ≠ .long) (ht : t + 1 ≤ j) : inA (put y j H p s) (p + (t + 1)) ty i = true ↔ (0 ≤ i.toInt ∧ i.toInt < n) := by
  rw [← clamp_lt]; simp [inA, put_t ht, blk_I h hl]
theorem inA_J (h : y.2[t]? = some (.long, n)) (ht : t + 1 ≤ j) : inA (put y j H p s) (p + (t + 1)) .long i = true ↔ (0 ≤ i.toInt ∧ i.toInt < n) := by
  rw [← clamp_lt]; simp [inA, put_t ht, blk_J h]
theorem inA_no {ty' : FieldType} (h : y.2[t]? = some (ty, n)) (hl : ty ≠ .long) (ht : t + 1 ≤ j) (hne : ty ≠ ty') : inA (put y j H p s) (p + (t + 1)) ty' i = true ↔ False := by
  simp [inA, put_t ht, blk_I h hl, hne]
theorem inAw_I (h : y.2[t]? = some (ty, n)) (hl : ty ≠ .long) (ht : t + 1 ≤ j) : inAw (put y j H p s) (p + (t + 1)) ty i = true ↔ (0 ≤ i.toInt ∧ i.toInt < n) := by
  rw [← inA_I (H := H) (p := p) (s := s) h hl ht]; simp [inAw, put_t ht, blk_I h hl]
theorem inAw_J (h : y.2[t]? = some (.long, n)) (ht : t + 1 ≤ j) : inAw (put y j H p s) (p + (t + 1)) .long i = true ↔ (0 ≤ i.toInt ∧ i.toInt < n) := by
  rw [← inA_J (H := H) (p := p) (s := s) h ht]; simp [inAw, put_t ht, blk_J h]
theorem inAw_no {ty' : FieldType} (h : y.2[t]? = some (ty, n)) (hl : ty ≠ .long) (ht : t + 1 ≤ j) (hne : ty ≠ ty') : inAw (put y j H p s) (p + (t + 1)) ty' i = true ↔ False := by
  simp [inAw, inA, put_t ht, blk_I h hl, hne]
theorem elt_I (h : y.2[t]? = some (ty, n)) (hl : ty ≠ .long) (ht : t + 1 ≤ j) : elt (put y j H p s) (p + (t + 1)) i = .int (sA s (t + 1) i.toNatClampNeg) := by
  simp only [elt, put_t ht, blk_I h hl]
theorem elt_J (h : y.2[t]? = some (.long, n)) (ht : t + 1 ≤ j) : elt (put y j H p s) (p + (t + 1)) i = .long (sB s (t + 1) i.toNatClampNeg) := by
  simp only [elt, put_t ht, blk_J h]
theorem put_wr {s' : St} {t q : Nat} {v : Value} (ht : t ≤ j) (hb : ∀ t', blk y j p s' t' = if t' = t then ((blk y j p s t).1, (blk y j p s t).2.1, (blk y j p s t).2.2.1, fun i => if i = q then v else (blk y j p s t).2.2.2 i) else blk y j p s t') :
    wr (put y j H p s) (p + t) q v = put y j H p s' := by
  refine Prod.ext rfl (funext fun a => ?_)
  simp only [wr, put_t ht]
  by_cases e : a = p + t
  · subst e; simp [put, ht, hb]
  · simp only [e, if_false, put]
    by_cases g : p ≤ a ∧ a ≤ p + j
    · have : a - p ≠ t := by omega
      simp [g, hb, this]
    · simp [g]
theorem fvl_uI {v : Int32} (h : y.1[k]? = some (ty, t)) (hl : ty ≠ .long) (ha : ∀ e, ty ≠ .array e) (i : Nat) : fvl y j p (uI s k v) i = if i = k then .int v else fvl y j p s i := by
  by_cases e : i = k
  · subst e; simp only [fvl, h, if_true]; cases ty <;> first | (simp [sI_uI]; done) | exact absurd rfl hl | exact absurd rfl (ha _)
  · simp only [fvl, e, if_false, sI_uI, sJ_uI]
theorem fvl_uJ {v : Int64} (h : y.1[k]? = some (.long, t)) (i : Nat) : fvl y j p (uJ s k v) i = if i = k then .long v else fvl y j p s i := by
  by_cases e : i = k
  · subst e; simp only [fvl, h, if_true, sJ_uJ]
  · simp only [fvl, e, if_false, sI_uJ, sJ_uJ]
theorem wr_I {v : Int32} (h : y.1[k]? = some (ty, t)) (hl : ty ≠ .long) (ha : ∀ e, ty ≠ .array e) : wr (put y j H p s) p k (.int v) = put y j H p (uI s k v) := by
  refine put_wr (t := 0) (Nat.zero_le _) fun t' => ?_
  cases t' with
  | zero => simp only [blk, if_true]; exact congrArg (fun f => (_, _, _, f)) (funext fun i => fvl_uI h hl ha i)
  | succ t' => simp [blk, sA_uI, sB_uI]
theorem wr_J {v : Int64} (h : y.1[k]? = some (.long, t)) : wr (put y j H p s) p k (.long v) = put y j H p (uJ s k v) := by
  refine put_wr (t := 0) (Nat.zero_le _) fun t' => ?_
  cases t' with
  | zero => simp only [blk, if_true]; exact congrArg (fun f => (_, _, _, f)) (funext fun i => fvl_uJ h i)
  | succ t' => simp [blk, sA_uJ, sB_uJ]
theorem wr_A {v : Int32} {q : Nat} (h : y.2[t]? = some (ty, n)) (hl : ty ≠ .long) (ht : t + 1 ≤ j) : wr (put y j H p s) (p + (t + 1)) q (.int v) = put y j H p (uA s (t + 1) q v) := by
  refine put_wr ht fun t' => ?_
  by_cases e : t' = t + 1
  · subst e
    simp only [blk_I h hl, if_true, sA_uA, true_and]
    exact congrArg (fun f => (_, _, _, f)) (funext fun i => by split <;> rfl)
  · simp only [e, if_false]
    cases t' with
    | zero => rfl
    | succ t' => have : ¬ t' = t := fun q => e (by rw [q]); simp [blk, sA_uA, sB_uA, this]
theorem wr_B {v : Int64} {q : Nat} (h : y.2[t]? = some (.long, n)) (ht : t + 1 ≤ j) : wr (put y j H p s) (p + (t + 1)) q (.long v) = put y j H p (uB s (t + 1) q v) := by
  refine put_wr ht fun t' => ?_
  by_cases e : t' = t + 1
  · subst e
    simp only [blk_J h, if_true, sB_uB, true_and]
    exact congrArg (fun f => (_, _, _, f)) (funext fun i => by split <;> rfl)
  · simp only [e, if_false]
    cases t' with
    | zero => rfl
    | succ t' => have : ¬ t' = t := fun q => e (by rw [q]); simp [blk, sA_uB, sB_uB, this]
theorem mkO_put {P : Prog} (hn : P.2.2.2 = y.1.length) (hf : ∀ k, defaultValue (P.2.2.1 k) = fvl y 0 H.1 z0 k) : mkO P H = put y 0 (H.1 + 1, H.2) H.1 z0 := by
  refine Prod.ext rfl (funext fun a => ?_)
  by_cases e : a = H.1
  · subst e; simp only [mkO, if_true, put_0, hn]; exact congrArg (fun f => (_, _, _, f)) (funext fun k => hf k)
  · have : ¬ (H.1 ≤ a ∧ a ≤ H.1 + 0) := by omega
    simp only [mkO, put, e, if_false, if_neg this]
theorem mkA_put {h : Nat → Cel} (h1 : y.1[k]? = some (.array ty, j + 1)) (h2 : y.2[j]? = some (ty, n)) (hu : (List.range y.1.length).all (fun k' => decide (k' = k) || ((y.1.getD k' (.int, 0)).2 != j + 1)) = true) (hz : ∀ i, sA s (j + 1) i = 0) (hz' : ∀ i, sB s (j + 1) i = 0) (hty : ty = .int ∨ ty = .long ∨ ty = .byte ∨ ty = .boolean) :
    wr (mkA ty n (put y j (p + (j + 1), h) p s)) p k (.ref (p + (j + 1))) = put y (j + 1) (p + (j + 1) + 1, h) p s := by
  refine Prod.ext rfl (funext fun a => ?_)
  have hp : ¬ p = p + (j + 1) := by omega
  have hN : (put y j (p + (j + 1), h) p s).1 = p + (j + 1) := rfl
  by_cases e : a = p
  · subst e
    simp only [wr, mkA, hN, if_true, hp, if_false, put_0]
    refine congrArg (fun f => (_, _, _, f)) (funext fun i => ?_)
    by_cases e2 : i = k
    · subst e2; simp [fvl, h1]
    · simp only [e2, if_false, fvl]
      cases hq : y.1[i]? with
      | none => rfl
      | some x =>
        obtain ⟨x1, x2⟩ := x
        cases x1 <;> try rfl
        rename_i el
        have : x2 ≠ j + 1 := fun q => by
          have hlt : i < y.1.length := (List.getElem?_eq_some_iff.mp hq).1
          have u := List.all_eq_true.mp hu i (List.mem_range.mpr hlt)
          simp [e2, hq, q] at u
        have : (x2 ≤ j + 1) = (x2 ≤ j) := propext ⟨fun _ => by omega, fun _ => by omega⟩
        simp [this]
  · simp only [wr, mkA, hN, e, if_false]
    by_cases e2 : a = p + (j + 1)
    · subst e2
      simp only [if_true, put_t (Nat.le_refl (j + 1))]
      rcases hty with rfl | rfl | rfl | rfl
      · simp only [blk, h2, hz]; rfl
      · simp only [blk, h2, hz']; rfl
      · simp only [blk, h2, hz]; rfl
      · simp only [blk, h2, hz]; rfl
    · simp only [e2, if_false, put]
      by_cases g : p ≤ a ∧ a ≤ p + j
      · have g2 : p ≤ a ∧ a ≤ p + (j + 1) := by omega
        simp only [g, g2, and_self, if_true]
        obtain ⟨t, ht⟩ : ∃ t, a - p = t + 1 := ⟨a - p - 1, by omega⟩
        rw [ht]; rfl
      · have g2 : ¬ (p ≤ a ∧ a ≤ p + (j + 1)) := by omega
        simp only [g, g2, if_false]
theorem isOw_mk {h : Nat → Cel} {c : Nat} : isOw (mkA ty n (put y j (p + (c + 1), h) p s)) p = true := by
  have : ¬ p = p + (c + 1) := by omega
  have hN : (put y j (p + (c + 1), h) p s).1 = p + (c + 1) := rfl
  simp [isOw, isO, mkA, hN, this, put_0]
theorem put_fst : (put y j H p s).1 = H.1 := by simp [put]
theorem cl_unf {P : Prog} {m : Nat} {a : List Value} {L : List Slot} {Q : Option Value → AH → Prop} (h : ent P m a = L) : Cl P m a H Q ↔ W P m 0 L [] 0 0 H Q := by unfold Cl; rw [h]
theorem inA_ot {a : Nat} (h : a < p ∨ p + j < a) : inA (put y j H p s) a ty i = inA H a ty i := by simp only [inA, put_ot h]
theorem isA_ot {a : Nat} (h : a < p ∨ p + j < a) : isA (put y j H p s) a = isA H a := by simp only [isA, put_ot h]
theorem elt_ot {a : Nat} (h : a < p ∨ p + j < a) : elt (put y j H p s) a i = elt H a i := by simp only [elt, put_ot h]
theorem alen_ot {a : Nat} (h : a < p ∨ p + j < a) : alen (put y j H p s) a = alen H a := by simp only [alen, put_ot h]
end Put
def noc : Cel := (.char, 0, false, fun _ => .null)
def H1 (n a len : Nat) (f : Nat → Int32) : AH := (n, fun b => if b = a then (.array .int, len, false, fun i => .int (f i)) else noc)
theorem isA_H1 {n a len : Nat} {f : Nat → Int32} : isA (H1 n a len f) a = true := by simp [isA, H1]
theorem alen_H1 {n a len : Nat} {f : Nat → Int32} : alen (H1 n a len f) a = len := by simp [alen, H1]
theorem inA_H1 {n a len : Nat} {f : Nat → Int32} {i : Int32} : inA (H1 n a len f) a .int i = true ↔ (0 ≤ i.toInt ∧ i.toInt < len) := by rw [← clamp_lt]; simp [inA, H1]
theorem elt_H1 {n a len : Nat} {f : Nat → Int32} {i : Int32} : elt (H1 n a len f) a i = .int (f i.toNatClampNeg) := by simp [elt, H1]
def cl (lo hi v : Int32) : Int32 := if v < lo then lo else if hi < v then hi else v
section Okv
variable {x : Int32} {l : Int64} {a : Nat} {t : FieldType}
theorem okv_int : (okv .int (.int x) = true) = True := by simp [okv]
theorem okv_long : (okv .long (.long l) = true) = True := by simp [okv]
theorem okv_ref : (okv (.array t) (.ref a) = true) = True := by simp [okv]
theorem okv_bool : (okv .boolean (.int x) = true) = (x = 0 ∨ x = 1) := by simp [okv]
theorem okv_byte : (okv .byte (.int x) = true) = (x.toInt8.toInt32 = x) := by simp [okv]
end Okv
end Jvm.JX

namespace Jvm.JX
open Sem ClassFile Op Lib
section Num
theorem ia {x y : Int32} (h1 : -2147483648 ≤ x.toInt + y.toInt) (h2 : x.toInt + y.toInt ≤ 2147483647) : (x + y).toInt = x.toInt + y.toInt := by
  rw [Int32.toInt_add]; exact Int.bmod_eq_of_le (by omega) (by omega)
theorem isb {x y : Int32} (h1 : -2147483648 ≤ x.toInt - y.toInt) (h2 : x.toInt - y.toInt ≤ 2147483647) : (x - y).toInt = x.toInt - y.toInt := by
  rw [Int32.toInt_sub]; exact Int.bmod_eq_of_le (by omega) (by omega)
theorem im {x y : Int32} (h1 : -2147483648 ≤ x.toInt * y.toInt) (h2 : x.toInt * y.toInt ≤ 2147483647) : (x * y).toInt = x.toInt * y.toInt := by
  rw [Int32.toInt_mul]; exact Int.bmod_eq_of_le (by omega) (by omega)
theorem ja {x y : Int64} (h1 : -9223372036854775808 ≤ x.toInt + y.toInt) (h2 : x.toInt + y.toInt ≤ 9223372036854775807) : (x + y).toInt = x.toInt + y.toInt := by
  rw [Int64.toInt_add]; exact Int.bmod_eq_of_le (by omega) (by omega)
theorem lt32 {x y : Int32} : x < y ↔ x.toInt < y.toInt := Int32.lt_iff_toInt_lt
theorem eq32 {x y : Int32} : x = y ↔ x.toInt = y.toInt := Int32.toInt_inj.symm
theorem lt64 {x y : Int64} : x < y ↔ x.toInt < y.toInt := Int64.lt_iff_toInt_lt
theorem eq64 {x y : Int64} : x = y ↔ x.toInt = y.toInt := Int64.toInt_inj.symm
theorem cln {i : Int32} : i.toNatClampNeg = i.toInt.toNat := rfl
theorem idx2 {u v : Int32} {a b : Int} (c : Int32) (hc : 0 ≤ c.toInt ∧ c.toInt ≤ 1000) (hu : 0 ≤ u.toInt ∧ u.toInt < a) (hv : 0 ≤ v.toInt ∧ v.toInt < b) (ha : a ≤ 1000) (hb : b ≤ 1000) : (u * c + v).toInt = u.toInt * c.toInt + v.toInt := by
  have h1 : u.toInt * c.toInt ≤ 1000 * 1000 := Int.mul_le_mul (by omega) (by omega) (by omega) (by omega)
  have h0 : 0 ≤ u.toInt * c.toInt := Int.mul_nonneg (by omega) (by omega)
  have e : (u * c).toInt = u.toInt * c.toInt := im (by omega) (by omega)
  rw [ia (by rw [e]; omega) (by rw [e]; omega), e]
theorem cl_rg {lo hi : Int32} (v : Int32) (h : lo.toInt ≤ hi.toInt) : lo.toInt ≤ (cl lo hi v).toInt ∧ (cl lo hi v).toInt ≤ hi.toInt := by
  unfold cl
  by_cases h1 : v < lo
  · rw [if_pos h1]; omega
  · rw [if_neg h1]
    by_cases h2 : hi < v
    · rw [if_pos h2]; omega
    · rw [if_neg h2]; rw [lt32] at h1 h2; omega
end Num
section Fill
variable {s : St} {t lo hi k i t' : Nat} {v : Int32}
end Fill
section Cnt
def cnt (f : Nat → Bool) : Nat → Nat → Nat
  | _, 0 => 0
  | j, k + 1 => (if f j = true then 1 else 0) + cnt f (j + 1) k
theorem cnt_none {f : Nat → Bool} : ∀ (k j : Nat), (∀ i, j ≤ i → i < j + k → f i = false) → cnt f j k = 0
  | 0, _, _ => rfl
  | k + 1, j, h => by
    have h1 := h j (Nat.le_refl _) (by omega)
    simp only [cnt, h1]
    rw [cnt_none k (j + 1) fun i a b => h i (by omega) (by omega)]; rfl
theorem cnt_le {f : Nat → Bool} : ∀ (k j : Nat), cnt f j k ≤ k
  | 0, _ => Nat.le_refl _
  | k + 1, j => by have := cnt_le (f := f) k (j + 1); simp only [cnt]; split <;> omega
theorem cnt_congr {f g : Nat → Bool} : ∀ (k j : Nat), (∀ i, j ≤ i → i < j + k → f i = g i) → cnt f j k = cnt g j k
  | 0, _, _ => rfl
  | k + 1, j, h => by simp only [cnt]; rw [h j (Nat.le_refl _) (by omega), cnt_congr k (j + 1) fun i a b => h i (by omega) (by omega)]
end Cnt
section Ite
variable {P : Prog} {m pc : Nat} {L : List Slot} {S : List Value} {k n : Nat} {H : AH} {Q : Option Value → AH → Prop} {c : Prop} [Decidable c]
end Ite
end Jvm.JX

namespace Jvm.JX
open Sem ClassFile Op Lib
section Forget
variable {P : Prog} {m pc len k n i : Nat} {aux : Int} {ins : Instr} {L L' M : List Slot} {S : List Value} {H : AH} {v : Value} {Q : Option Value → AH → Prop}
def lel (L L' : List Slot) : Prop := ∀ i : Nat, L[i]? = L'[i]? ∨ (L[i]? = some .unset ∧ ∃ o, L'[i]? = some o ∧ cat1 o = true)
theorem lel_refl : lel L L := fun _ => Or.inl rfl
theorem lel_cons {a : Slot} (h : lel L L') : lel (a :: L) (a :: L') := fun i => by cases i with
  | zero => exact Or.inl rfl
  | succ i => simpa using h i
theorem lel_un {o : Slot} (ho : cat1 o = true) (h : lel L L') : lel (.unset :: L) (o :: L') := fun i => by cases i with
  | zero => exact Or.inr ⟨rfl, o, rfl, ho⟩
  | succ i => simpa using h i
theorem lel_len (h : lel L L') : L.length = L'.length := by
  rcases Nat.lt_trichotomy L.length L'.length with g | g | g
  · have h1 : L[L.length]? = none := List.getElem?_eq_none (Nat.le_refl _)
    rcases h L.length with e | ⟨e, -⟩
    · rw [h1] at e; have := List.getElem?_eq_none_iff.mp e.symm; omega
    · rw [h1] at e; cases e
  · exact g
  · have h1 : L'[L'.length]? = none := List.getElem?_eq_none (Nat.le_refl _)
    rcases h L'.length with e | ⟨-, o, e, -⟩
    · rw [h1] at e; have := List.getElem?_eq_none_iff.mp e; omega
    · rw [h1] at e; cases e
theorem lel_set {a : Slot} (h : lel L L') : lel (L.set i a) (L'.set i a) := fun j => by
  rw [List.getElem?_set, List.getElem?_set, lel_len h]
  by_cases e : i = j
  · rw [if_pos e, if_pos e]; exact Or.inl rfl
  · rw [if_neg e, if_neg e]; exact h j
theorem ldI_le (h : lel L L') (e : ldI L i = some v) : ldI L' i = some v := by
  unfold ldI at *; rcases h i with g | ⟨g, -⟩
  · rw [← g]; exact e
  · rw [g] at e; cases e
theorem ldJ_le (h : lel L L') (e : ldJ L i = some v) : ldJ L' i = some v := by
  unfold ldJ at *; rcases h i with g | ⟨g, -⟩
  · rw [← g]; exact e
  · rw [g] at e; cases e
theorem ldR_le (h : lel L L') (e : ldR L i = some v) : ldR L' i = some v := by
  unfold ldR at *; rcases h i with g | ⟨g, -⟩
  · rw [← g]; exact e
  · rw [g] at e; cases e
theorem stl_le (h : lel L L') (e : stl L i v = some M) : ∃ M', stl L' i v = some M' ∧ lel M M' := by
  unfold stl at *
  rcases h i with g | ⟨g, o, g', ho⟩
  · rw [← g, ← lel_len h]
    revert e; generalize L[i]? = x; intro e
    match x, e with
    | some .unset, e => cases e; exact ⟨_, rfl, lel_set h⟩
    | some (.val w), e =>
      simp only at e ⊢
      by_cases c : w.category = 1
      · simp only [c, if_true] at e ⊢; cases e; exact ⟨_, rfl, lel_set h⟩
      · simp only [c, if_false] at e ⊢
        by_cases d : i + 1 < L.length
        · simp only [d, if_true] at e ⊢; cases e; exact ⟨_, rfl, lel_set (lel_set h)⟩
        · simp only [d, if_false] at e; cases e
    | some .second, e =>
      simp only at e ⊢
      by_cases d : 1 ≤ i
      · simp only [d, if_true] at e ⊢; cases e; exact ⟨_, rfl, lel_set (lel_set h)⟩
      · simp only [d, if_false] at e; cases e
    | none, e => cases e
  · rw [g] at e; cases e; rw [g']
    match o, ho with
    | .unset, _ => exact ⟨_, rfl, lel_set h⟩
    | .val w, ho =>
      have c : w.category = 1 := by simpa [cat1] using ho
      simp only [c, if_true]; exact ⟨_, rfl, lel_set h⟩
theorem stL_le (h : lel L L') (e : stL L i v = some M) : ∃ M', stL L' i v = some M' ∧ lel M M' := by
  have key : ∀ o2, L[i + 1]? = some o2 → ∃ o3, L'[i + 1]? = some o3 ∧ (cat1 o2 = true → cat1 o3 = true) := by
    intro o2 e2
    rcases h (i + 1) with g | ⟨g, o, g', ho⟩
    · exact ⟨o2, by rw [← g]; exact e2, id⟩
    · exact ⟨o, g', fun _ => ho⟩
  unfold stL at *
  have hs : lel ((L.set i (.val v)).set (i + 1) .second) ((L'.set i (.val v)).set (i + 1) .second) := lel_set (lel_set h)
  cases e2 : L[i + 1]? with
  | none => rw [e2] at e; revert e; cases L[i]? with
    | none => intro e; cases e
    | some o => intro e; cases o <;> cases e
  | some o2 =>
    obtain ⟨o3, g3, c3⟩ := key o2 e2
    rw [e2] at e; rw [g3]
    rcases h i with g | ⟨g, o, g', ho⟩
    · rw [← g]
      revert e; generalize L[i]? = x; intro e
      match x, e with
      | some .unset, e =>
        simp only at e ⊢
        by_cases c : cat1 o2 = true
        · simp only [c, if_true] at e; cases e; simp only [c3 c, if_true]; exact ⟨_, rfl, hs⟩
        · simp only [c] at e; cases e
      | some (.val w), e =>
        simp only at e ⊢
        by_cases d : w.category = 2
        · simp only [d, if_true] at e ⊢; cases e; exact ⟨_, rfl, hs⟩
        · simp only [d, if_false] at e ⊢
          by_cases c : cat1 o2 = true
          · simp only [c, if_true] at e; cases e; simp only [c3 c, if_true]; exact ⟨_, rfl, hs⟩
          · simp only [c] at e; cases e
      | some .second, e => cases e
      | none, e => cases e
    · rw [g] at e; rw [g']
      simp only at e
      by_cases c : cat1 o2 = true
      · simp only [c, if_true] at e; cases e
        match o, ho with
        | .unset, _ => simp only [c3 c, if_true]; exact ⟨_, rfl, hs⟩
        | .val w, ho =>
          by_cases d : w.category = 2
          · simp only [d, if_true]; exact ⟨_, rfl, hs⟩
          · simp only [d, if_false, c3 c, if_true]; exact ⟨_, rfl, hs⟩
      · simp only [c] at e; cases e
def loc : Instr → Bool
  | .iload _ | .iload_n _ | .lload _ | .lload_n _ | .aload _ | .aload_n _ | .istore _ | .istore_n _ | .astore _ | .astore_n _ | .lstore _ | .lstore_n _ | .iinc _ _ => true
  | _ => false
theorem stp_fr {q : Fm} (hl : loc ins = false) (e : stp P m ins len aux pc L S k n H = some q) : q.2.1 = L ∧ stp P m ins len aux pc L' S k n H = some (q.1, L', q.2.2) := by
  cases ins <;> first
    | (cases hl; done)
    | (simp only [stp] at e ⊢; cases e; done)
    | (simp only [stp] at e ⊢; cases e; exact ⟨rfl, rfl⟩)
    | (simp only [stp, Option.map_eq_some_iff] at e ⊢; (repeat' split at e) <;> first
        | (cases e; done)
        | (cases e; exact ⟨rfl, rfl⟩)
        | (obtain ⟨w, h1, h2⟩ := e; subst h2; exact ⟨rfl, w, h1, rfl⟩)
        | (simp_all; done)
        | (simp_all; subst e; simp; done)
        | (simp_all; obtain ⟨e1, e2, e3⟩ := e; subst e3; simp_all; done)
        | (simp only [Option.bind_eq_some_iff, Option.map_eq_some_iff] at e; obtain ⟨w, h1, u, h2, h3⟩ := e; subst h3; simp_all; done)
        | (simp only [Option.bind_eq_some_iff, Option.map_eq_some_iff] at e; obtain ⟨w, h1, u, h2, h3⟩ := e; subst h3; simp_all; omega))
theorem stp_le {q : Fm} (h : lel L L') (e : stp P m ins len aux pc L S k n H = some q) : ∃ M, stp P m ins len aux pc L' S k n H = some (q.1, M, q.2.2) ∧ lel q.2.1 M := by
  cases hl : loc ins with
  | false =>
    obtain ⟨h1, h2⟩ := stp_fr (L' := L') hl e
    exact ⟨L', h2, by rw [h1]; exact h⟩
  | true =>
    cases ins <;> first
      | (cases hl; done)
      | (simp only [stp, Option.map_eq_some_iff] at e ⊢; obtain ⟨w, h1, h2⟩ := e; subst h2; first
          | exact ⟨L', ⟨w, ldI_le h h1, rfl⟩, h⟩
          | exact ⟨L', ⟨w, ldJ_le h h1, rfl⟩, h⟩
          | exact ⟨L', ⟨w, ldR_le h h1, rfl⟩, h⟩)
      | (simp only [stp] at e ⊢; split at e
         · simp only [Option.map_eq_some_iff] at e ⊢
           obtain ⟨w, h1, h2⟩ := e; subst h2
           first
            | (obtain ⟨M, g1, g2⟩ := stl_le h h1; exact ⟨M, ⟨M, g1, rfl⟩, g2⟩)
            | (obtain ⟨M, g1, g2⟩ := stL_le h h1; exact ⟨M, ⟨M, g1, rfl⟩, g2⟩)
         · cases e)
      | (simp only [stp] at e ⊢; rename_i i c; rcases h i with g | ⟨g, -⟩
         · rw [← g]; revert e; generalize L[i]? = x; intro e
           split at e
           · cases e; exact ⟨_, rfl, lel_set h⟩
           · cases e
         · rw [g] at e; cases e)
theorem run_fg : ∀ (f m pc : Nat) (L L' : List Slot) (S : List Value) (k n : Nat) (H : AH) (r : Option Value × AH), lel L L' → run P f m pc L S k n H = some r → run P f m pc L' S k n H = some r
  | 0, _, _, _, _, _, _, _, _, _, _, e => by cases e
  | f + 1, m, pc, L, L', S, k, n, H, r, h, e => by
    unfold run at e ⊢
    cases hd : P.1 m pc with
    | none => rw [hd] at e; cases e
    | some d =>
      rw [hd] at e; simp only at e ⊢
      cases hr : ret P m d.1 S with
      | some v => rw [hr] at e; exact e
      | none =>
        rw [hr] at e; simp only at e ⊢
        cases hc : cal P m d.1 d.2.2 S k n H with
        | some c =>
          rw [hc] at e; simp only at e ⊢
          cases hx : run P f c.1 0 (ent P c.1 c.2.1) [] 0 0 H with
          | none => rw [hx] at e; cases e
          | some y => rw [hx] at e; simp only at e ⊢; exact run_fg f _ _ _ _ _ _ _ _ _ h e
        | none =>
          rw [hc] at e; simp only at e ⊢
          cases hs : stp P m d.1 d.2.1 d.2.2 pc L S k n H with
          | none => rw [hs] at e; cases e
          | some q =>
            rw [hs] at e; simp only at e
            obtain ⟨M, g1, g2⟩ := stp_le h hs
            rw [g1]; exact run_fg f _ _ _ _ _ _ _ _ _ g2 e
theorem W_fg (h : lel L L') (w : W P m pc L S k n H Q) : W P m pc L' S k n H Q := by
  obtain ⟨f, v, H', e, q⟩ := w
  exact ⟨f, v, H', run_fg f m pc L L' S k n H _ h e, q⟩
end Forget
section Ist
variable {P : Prog} {m pc len k n i : Nat} {aux : Int} {L : List Slot} {S : List Value} {H : AH} {Q : Option Value → AH → Prop} {x : Int32} {l : Int64}
end Ist
section Num2
theorem len32 {n : Nat} (h : n < 2147483648) : (n.toInt32).toInt = n := by
  rw [show n.toInt32 = Int32.ofNat n from rfl, Int32.toInt_ofNat_of_lt (by omega)]
end Num2
end Jvm.JX

namespace Jvm.JX
open Sem ClassFile Op Lib
end Jvm.JX

namespace Jvm.JX
open Sem ClassFile Op Lib Jvm.Stand Jvm.Free Jvm.LawKit Jvm.RoadKit
def CRel (C : String) (fn : Nat → String × String) (F : List Nat) (Z : State) (n0 : Nat) (h : Heap) (a : Nat) (c : Cel) : Prop :=
  (c.2.2.1 = true → n0 ≤ a) ∧
  match c.1 with
  | .object _ => Exa Z h a C ∧ ∀ k ∈ F, Fld Z h a C (fn k).1 (fn k).2 (c.2.2.2 k)
  | .array t => c.2.1 < 2 ^ 31 ∧ ∃ cl : Cell, Arr Z h a cl t ∧ cl.slots.size = c.2.1 ∧ ∀ i, i < c.2.1 → cl.slots[i]? = some (c.2.2.2 i)
  | _ => True
def RelH (C : String) (fn : Nat → String × String) (F : List Nat) (Z : State) (n0 : Nat) (h : Heap) (H : AH) : Prop := h.size = H.1 ∧ n0 ≤ H.1 ∧ ∀ a, CRel C fn F Z n0 h a (H.2 a)
def ilen2 : Instr → Nat → Nat
  | .tableswitch _ _ _ _, l => l
  | i, _ => ilen i
def RowOk (P : Prog) (tb : List Jvm.Cond) (C : String) (fn : Nat → String × String) (F : List Nat) (nsl : Nat) (nm : Nat → MethodName) (R : List Nat) (m : Nat) (ins : Instr) (aux : Int) : Prop :=
  match ins with
  | .getfield i => aux.toNat ∈ F ∧ Jvm.Cond.fieldLink (nm m).cls i C (fn aux.toNat).1 (fn aux.toNat).2 ∈ tb
  | .putfield i => aux.toNat ∈ F ∧ Jvm.Cond.fieldLink (nm m).cls i C (fn aux.toNat).1 (fn aux.toNat).2 ∈ tb ∧ (Jvm.Cond.lays C C (fn aux.toNat).1 (fn aux.toNat).2 ∈ tb ∨ (nm m).cls = C ∧ (nm m).name = "<init>")
  | .new i => aux.toNat = nsl ∧ Jvm.Cond.classLink (nm m).cls i C ∈ tb
  | .newarray t => Jvm.Cond.arrayClass (newarray.typeOf t) ∈ tb
  | .ldc i => Jvm.Cond.constant (nm m).cls i (Int32.ofInt aux) ∈ tb
  | .ldc2_w i => Jvm.Cond.constantLong (nm m).cls i (Int64.ofInt aux) ∈ tb
  | .invokevirtual i => aux.toNat ∈ R ∧ Jvm.Cond.methodLink (nm m).cls i (nm aux.toNat) ∈ tb
  | .invokestatic i => aux.toNat ∈ R ∧ Jvm.Cond.methodLink (nm m).cls i (nm aux.toNat) ∈ tb
  | .invokespecial i => (aux = -1 → Jvm.Cond.methodLink (nm m).cls i Lib.objectInit ∈ tb ∧ Jvm.Cond.instanceMethod Lib.objectInit ∈ tb ∧ Jvm.Cond.code Lib.objectInit ⟨#[0xb1]⟩ 1 none ∈ tb) ∧ (0 ≤ aux → aux.toNat ∈ R ∧ Jvm.Cond.methodLink (nm m).cls i (nm aux.toNat) ∈ tb)
  | _ => True
def CalOk (P : Prog) (tb : List Jvm.Cond) (C : String) (nm : Nat → MethodName) (bt : Nat → ByteArray) (m : Nat) : Prop :=
  Jvm.Cond.code (nm m) (bt m) (ml P m) (rt P m) ∈ tb ∧ Jvm.Cond.initialized (nm m).cls ∈ tb ∧ (∃ ps r, parseMethodDescriptor (nm m).desc = some ⟨ps, r⟩ ∧ ps.length + (if kd P m = 0 then 0 else 1) = na P m) ∧
  (kd P m = 0 → Jvm.Cond.static (nm m) ∈ tb) ∧
  (kd P m ≠ 0 → (nm m).cls = C ∧ Jvm.Cond.instanceMethod (nm m) ∈ tb) ∧
  (kd P m = 1 → Jvm.Cond.declares (nm m) ∈ tb ∧ Jvm.Cond.selects C (nm m) (nm m) ∈ tb) ∧
  (kd P m = 2 → Jvm.Cond.privateMethod (nm m) ∈ tb) ∧
  (kd P m = 3 → (nm m).name = "<init>" ∧ rt P m = none)
def Good (P : Prog) (tb : List Jvm.Cond) (C : String) (fn : Nat → String × String) (F : List Nat) (nsl : Nat) (nm : Nat → MethodName) (bt : Nat → ByteArray) (R : List Nat) (top : Nat) : Prop :=
  Jvm.Cond.instantiable C nsl ∈ tb ∧ Jvm.Cond.initialized C ∈ tb ∧
  (∀ k ∈ F, parseFieldDescriptor (fn k).2 = some (P.2.2.1 k) ∧ (Jvm.Cond.lays C C (fn k).1 (fn k).2 ∈ tb ∨ Jvm.Cond.laysFinal C C (fn k).1 (fn k).2 ∈ tb)) ∧
  (∀ j ∈ F, ∀ k ∈ F, (fn j).1 = (fn k).1 → j = k) ∧
  (∀ m ∈ R, plainName (nm m).cls = true ∧ ((nm m).cls ≠ "java/lang/invoke/MethodHandle" ∧ (nm m).cls ≠ "java/lang/invoke/VarHandle") ∧
    ∀ pc ins len aux, P.1 m pc = some (ins, len, aux) → decode (bt m) pc = .ok (ins, len) ∧ len = ilen2 ins len ∧ RowOk P tb C fn F nsl nm R m ins aux) ∧
  (∀ m ∈ R, m ≠ top → CalOk P tb C nm bt m) ∧
  (∀ m ∈ R, ∀ pc ins len aux, P.1 m pc = some (ins, len, aux) → aux = (top : Int) → kindOk ins (kd P top) = false)
section Rel
variable {C : String} {fn : Nat → String × String} {F : List Nat} {Z : State} {n0 : Nat} {h h' : Heap} {H : AH}
theorem RelH.obj (r : RelH C fn F Z n0 h H) {a : Nat} (ha : isO H a = true) : Exa Z h a C ∧ ∀ k ∈ F, Fld Z h a C (fn k).1 (fn k).2 (fld H a k) := by
  have q := (r.2.2 a).2
  unfold isO at ha
  cases hk : (H.2 a).1 <;> rw [hk] at ha <;> first | (cases ha; done) | (simp only [hk] at q; exact q)
theorem RelH.own (r : RelH C fn F Z n0 h H) {a : Nat} (ha : (H.2 a).2.2.1 = true) : n0 ≤ a := (r.2.2 a).1 ha
theorem RelH.arr (r : RelH C fn F Z n0 h H) {a : Nat} {t : FieldType} (ha : (H.2 a).1 = .array t) : (H.2 a).2.1 < 2 ^ 31 ∧ ∃ cl : Cell, Arr Z h a cl t ∧ cl.slots.size = (H.2 a).2.1 ∧ ∀ i, i < (H.2 a).2.1 → cl.slots[i]? = some ((H.2 a).2.2.2 i) := by
  have q := (r.2.2 a).2
  simp only [ha] at q; exact q
theorem RelH.ext (r : RelH C fn F Z n0 h H) (E : Ext h h') {c : Cel} (hs : h'.size = h.size + 1) (hc : CRel C fn F Z n0 h' h.size c) : RelH C fn F Z n0 h' (H.1 + 1, fun b => if b = H.1 then c else H.2 b) := by
  refine ⟨by rw [hs, r.1], Nat.le_succ_of_le r.2.1, fun a => ?_⟩
  by_cases e : a = H.1
  · subst e; simp only [if_true]; rw [← r.1]; exact hc
  · simp only [e, if_false]
    obtain ⟨q1, q2⟩ := r.2.2 a
    refine ⟨q1, ?_⟩
    cases hk : (H.2 a).1 <;> simp only [hk] at q2 ⊢
    · exact ⟨q2.1.ext E, fun k hk => (q2.2 k hk).ext E⟩
    · obtain ⟨q3, cl, q4, q5⟩ := q2; exact ⟨q3, cl, q4.ext E, q5⟩
end Rel
def Go (C : String) (fn : Nat → String × String) (F : List Nat) (Z : State) (n0 : Nat) (p : Program) (l : Launch) (e : Env) (R : Jvm.Room) (s : State) (mid : MethodId) (args : Array Value) (below : List Frame) (meth : Method) (c : Code) (start : State) (nl : Nat) (q : Fm) : Prop :=
  ∃ T' locs', Stand p l e R s mid args below meth c T' locs' q.2.2.2.1 q.2.2.2.2.1 ∧ RelH C fn F Z n0 T'.heap q.2.2.2.2.2 ∧ Fr n0 locs' ∧ q.2.2.2.1 ≤ R.cells ∧ q.2.2.2.2.1 ≤ R.slots ∧ q.2.1.length = nl ∧
    ∀ target, Steps p.tables e below (T'.setTop (mkF mid q.1 q.2.1.toArray q.2.2.1)) target → Steps p.tables e below start target
theorem lrem_mod (x y : Int64) : x - (x / y) * y = x % y := by
  apply Int64.toInt_inj.mp
  have h1 := Int64.le_toInt (x % y)
  have h2 := Int64.toInt_lt (x % y)
  rw [Int64.toInt_sub, Int64.toInt_mul, Int64.toInt_div, Int.bmod_mul_bmod, Int.sub_bmod_bmod, Int.mul_comm (x.toInt.tdiv y.toInt), ← Int.tmod_def, ← Int64.toInt_mod]
  exact Int.bmod_eq_of_le_mul_two (by omega) (by omega)
theorem arr_get {L : List Slot} {i : Nat} {o : Slot} (h : L[i]? = some o) : L.toArray[i]? = some o := by simpa using h
theorem stl_ok {L L' : List Slot} {i : Nat} {v : Value} (hv : v.category = 1) (h : stl L i v = some L') : storeLocals L.toArray i v = some L'.toArray ∧ L'.length = L.length := by
  unfold stl at h
  unfold storeLocals
  cases hi : L[i]? with
  | none => rw [hi] at h; cases h
  | some o =>
    have hlt : i < L.length := (List.getElem?_eq_some_iff.mp hi).1
    rw [hi] at h
    rw [arr_get hi]
    cases o with
    | unset => cases h; simp [storeSelf, setAt, hlt, hv]
    | second =>
      simp only at h
      split at h
      · cases h; simp [storeSelf, setAt, hv, hlt, Nat.lt_of_le_of_lt (Nat.sub_le i 1) hlt]
      · cases h
    | val w =>
      simp only at h
      split at h
      · rename_i hw; cases h; simp [storeSelf, setAt, hv, hlt, hw]
      · rename_i hw
        split at h
        · rename_i h1
          have hw2 : w.category = 2 := by cases w <;> simp [Value.category] at hw ⊢
          cases h; simp [storeSelf, setAt, hv, hlt, hw2, h1]
        · cases h
theorem stL_ok {L L' : List Slot} {i : Nat} {v : Value} (hv : v.category = 2) (h : stL L i v = some L') : storeLocals L.toArray i v = some L'.toArray ∧ L'.length = L.length := by
  unfold stL at h
  unfold storeLocals
  cases hi : L[i]? with
  | none => rw [hi] at h; cases h
  | some o =>
    cases hi2 : L[i + 1]? with
    | none => rw [hi, hi2] at h; cases o <;> cases h
    | some o2 =>
      have hlt : i < L.length := (List.getElem?_eq_some_iff.mp hi).1
      have hlt2 : i + 1 < L.length := (List.getElem?_eq_some_iff.mp hi2).1
      rw [hi, hi2] at h
      rw [arr_get hi]
      have g2 : (L.set i (.val v))[i + 1]? = some o2 := by rw [List.getElem?_set_ne (by omega)]; exact hi2
      have g4 : L[i + 1] = o2 := (List.getElem?_eq_some_iff.mp hi2).2
      cases o with
      | second => cases h
      | unset =>
        simp only at h
        split at h
        · rename_i hc
          cases h
          cases o2 with
          | second => cases hc
          | unset => simp [storeSelf, setAt, hv, hlt, hlt2, g2, g4]
          | val w => simp only [cat1, beq_iff_eq] at hc; simp [storeSelf, setAt, hv, hlt, hlt2, g2, g4, hc]
        · cases h
      | val w =>
        simp only at h
        split at h
        · rename_i hw
          cases h
          have g3 : ((L.set (i + 1) .unset).set i (.val v))[i + 1]? = some .unset := by rw [List.getElem?_set_ne (by omega)]; simp [hlt2]
          simp [storeSelf, setAt, hv, hlt, hlt2, hw, g3]
          rw [List.set_comm _ _ (by omega), List.set_set, List.set_comm _ _ (by omega)]
        · rename_i hw
          have hw1 : ¬ w.category = 2 := hw
          split at h
          · rename_i hc
            cases h
            cases o2 with
            | second => cases hc
            | unset => simp [storeSelf, setAt, hv, hlt, hlt2, g2, g4, hw1]
            | val w => simp only [cat1, beq_iff_eq] at hc; simp [storeSelf, setAt, hv, hlt, hlt2, g2, g4, hw1, hc]
          · cases h
theorem jmp_ok {pc q : Nat} {o : Int} (h : jmp pc o = some q) : 0 ≤ (pc : Int) + o ∧ ((pc : Int) + o).toNat = q := by
  unfold jmp at h
  split at h
  · rename_i g; cases h; exact ⟨g, rfl⟩
  · cases h
theorem ldI_ok {L : List Slot} {i : Nat} {v : Value} (h : ldI L i = some v) : ∃ x, v = .int x ∧ L.toArray[i]? = some (.val (.int x)) := by
  unfold ldI at h
  split at h
  · rename_i x e; cases h; exact ⟨x, rfl, arr_get e⟩
  · cases h
theorem ldJ_ok {L : List Slot} {i : Nat} {v : Value} (h : ldJ L i = some v) : ∃ x, v = .long x ∧ L.toArray[i]? = some (.val (.long x)) := by
  unfold ldJ at h
  split at h
  · rename_i x e; cases h; exact ⟨x, rfl, arr_get e⟩
  · cases h
theorem ldR_ok {L : List Slot} {i : Nat} {v : Value} (h : ldR L i = some v) : ∃ x, v = .ref x ∧ L.toArray[i]? = some (.val (.ref x)) := by
  unfold ldR at h
  split at h
  · rename_i x e; cases h; exact ⟨x, rfl, arr_get e⟩
  · cases h
theorem okv_ok {t : FieldType} {v : Value} (h : okv t v = true) : narrow t v = v ∧ fits t v = true := by
  unfold okv at h
  split at h
  · exact ⟨rfl, rfl⟩
  · rename_i z
    simp only [Bool.or_eq_true, beq_iff_eq] at h
    rcases h with rfl | rfl <;> exact ⟨rfl, rfl⟩
  · rename_i z
    simp only [beq_iff_eq] at h
    have q := fits_nar_byte z
    rw [h] at q
    exact ⟨by show Value.int _ = _; rw [h], q⟩
  · exact ⟨rfl, rfl⟩
  · exact ⟨rfl, rfl⟩
  · cases h
end Jvm.JX

namespace Jvm.JX
open Sem ClassFile Op Lib Jvm.Stand Jvm.Free Jvm.LawKit Jvm.RoadKit
section Step
variable {P : Prog} {tb : List Jvm.Cond} {C : String} {fn : Nat → String × String} {F : List Nat} {nsl : Nat} {nm : Nat → MethodName} {bt : Nat → ByteArray} {R : List Nat} {top : Nat}
variable {l : Launch} {Z : State} {a0 : Array Value} {n0 : Nat} {m pc len k n : Nat} {aux : Int} {L : List Slot} {S : List Value} {H : AH} {ins : Instr} {q : Fm}
variable {p : Program} {e : Env} {s : State} {mid : MethodId} {args : Array Value} {below : List Frame} {meth : Method} {c : Code} {T : State} {locs : List Loc} {Rm : Jvm.Room}
theorem go_same {start : State} {nl pc' : Nat} {L' : List Slot} {S' : List Value} (X : Stand p l e Rm s mid args below meth c T locs k n) (r : RelH C fn F Z n0 T.heap H) (N : Fr n0 locs) (hk : k ≤ Rm.cells) (hn : n ≤ Rm.slots) (hL : L'.length = nl)
    (st : ∀ target, Steps p.tables e below (T.setTop (mkF mid pc' L'.toArray S')) target → Steps p.tables e below start target) : Go C fn F Z n0 p l e Rm s mid args below meth c start nl (pc', L', S', k, n, H) := ⟨T, locs, X, r, N, hk, hn, hL, st⟩
theorem go_heap {start : State} {nl pc' : Nat} {L' : List Slot} {S' : List Value} {T' : State} (X : Stand p l e Rm s mid args below meth c T' locs k n) (r : RelH C fn F Z n0 T.heap H) (hh : T'.heap = T.heap) (N : Fr n0 locs) (hk : k ≤ Rm.cells) (hn : n ≤ Rm.slots) (hL : L'.length = nl)
    (st : ∀ target, Steps p.tables e below (T'.setTop (mkF mid pc' L'.toArray S')) target → Steps p.tables e below start target) : Go C fn F Z n0 p l e Rm s mid args below meth c start nl (pc', L', S', k, n, H) := ⟨T', locs, X, by rw [hh]; exact r, N, hk, hn, hL, st⟩
theorem idx_not {i : Int32} {n : Nat} (h1 : ¬ i < 0) (h2 : i.toNatClampNeg < n) : ¬ (i < 0 ∨ n ≤ i.toNatClampNeg) := fun h => h.elim h1 (Nat.not_le.mpr h2)
theorem inA_ok {a : Nat} {t : FieldType} {i : Int32} (h : inA H a t i = true) : (H.2 a).1 = .array t ∧ ¬ i < 0 ∧ i.toNatClampNeg < (H.2 a).2.1 := by
  simpa [inA, and_assoc] using h
theorem inAw_ok {a : Nat} {t : FieldType} {i : Int32} (h : inAw H a t i = true) : inA H a t i = true ∧ (H.2 a).2.2.1 = true := by
  simpa [inAw] using h
theorem isOw_ok {a : Nat} (h : isOw H a = true) : isO H a = true ∧ (H.2 a).2.2.1 = true := by simpa [isOw] using h
theorem RelH.wrF {h h' : Heap} {a j : Nat} {v : Value} (hG : Good P tb C fn F nsl nm bt R top) (hw : ∀ d ∈ tb, d.before a0 Z = true) (r : RelH C fn F Z n0 h H) (ha : isO H a = true) (hj : j ∈ F) (Wt : Wr h h' a (Jvm.RoadKit.slotOf Z C (fn j).1 (fn j).2) v) : RelH C fn F Z n0 h' (wr H a j v) := by
  refine ⟨by rw [Wt.size]; exact r.1, r.2.1, fun b => ?_⟩
  by_cases e : b = a
  · subst e
    obtain ⟨q1, q2⟩ := r.2.2 b
    obtain ⟨E, Fs⟩ := r.obj ha
    simp only [wr, if_true]
    refine ⟨q1, ?_⟩
    unfold isO at ha
    cases hk : (H.2 b).1 <;> rw [hk] at ha <;> try (cases ha; done)
    simp only
    refine ⟨E.wr Wt, fun i hi => ?_⟩
    by_cases e2 : i = j
    · subst e2; simp only [if_true]; exact (Fs i hi).same Wt
    · simp only [e2, if_false]
      refine (Fs i hi).other Wt (Or.inr ?_)
      have lw : ∀ k ∈ F, Laid Z a0 C C (fn k).1 (fn k).2 := fun k hk => ((hG.2.2.1 k hk).2).imp (hw _) (hw _)
      exact slot_ne (lw i hi) (lw j hj) (fun q => e2 (hG.2.2.2.1 i hi j hj q)) (hG.2.2.1 i hi).1 (hG.2.2.1 j hj).1
  · simp only [wr, e, if_false]
    obtain ⟨q1, q2⟩ := r.2.2 b
    refine ⟨q1, ?_⟩
    cases hk : (H.2 b).1 <;> simp only [hk] at q2 ⊢
    · exact ⟨q2.1.wr Wt, fun k hk => (q2.2 k hk).other Wt (Or.inl e)⟩
    · obtain ⟨q3, cl, q4, q5⟩ := q2; exact ⟨q3, cl, q4.other Wt e, q5⟩
theorem RelH.wrA {h h' : Heap} {a j : Nat} {t : FieldType} {v : Value} (r : RelH C fn F Z n0 h H) (ha : (H.2 a).1 = .array t) (hj : j < (H.2 a).2.1) (Wt : Wr h h' a j v) : RelH C fn F Z n0 h' (wr H a j v) := by
  refine ⟨by rw [Wt.size]; exact r.1, r.2.1, fun b => ?_⟩
  by_cases e : b = a
  · subst e
    obtain ⟨q1, q2⟩ := r.2.2 b
    obtain ⟨g1, cl, g2, g3, g4⟩ := r.arr ha
    simp only [wr, if_true]
    refine ⟨q1, ?_⟩
    simp only [ha]
    refine ⟨g1, cl.setSlot j v, g2.same Wt, by rw [sz_set]; exact g3, fun i hi => ?_⟩
    by_cases e2 : i = j
    · subst e2; simp [Cell.setSlot, g3, hj]
    · simp only [e2, if_false]; rw [← g4 i hi]; exact Array.getElem?_setIfInBounds_ne (Ne.symm e2)
  · simp only [wr, e, if_false]
    obtain ⟨q1, q2⟩ := r.2.2 b
    refine ⟨q1, ?_⟩
    cases hk : (H.2 b).1 <;> simp only [hk] at q2 ⊢
    · exact ⟨q2.1.wr Wt, fun k hk => (q2.2 k hk).other Wt (Or.inl e)⟩
    · obtain ⟨q3, cl, q4, q5⟩ := q2; exact ⟨q3, cl, q4.other Wt e, q5⟩
theorem ext_push (h : Heap) (x : Cell) : Ext h (h.push x) := ⟨by simp, fun a c q => by rw [Array.getElem?_push_lt (Array.getElem?_eq_some_iff.mp q).1]; exact (Array.getElem?_eq_getElem _).symm.trans q⟩
theorem made_obj {h : Heap} {cC : ClassId} {kC : Class} (hZ : Z.Warmed39 s.vm) (h1 : s.vm.findClass C = some cC) (h2 : s.vm.classes[cC]? = some kC) :
    Exa Z (h.push { cls := cC, slots := kC.instanceTypes.map defaultValue, vm := .none }) h.size C ∧ ∀ {nm d : String} {ty : FieldType}, Laid Z a0 C C nm d → parseFieldDescriptor d = some ty → Fld Z (h.push { cls := cC, slots := kC.instanceTypes.map defaultValue, vm := .none }) h.size C nm d (defaultValue ty) := by
  rw [hZ.alike.findClass] at h1
  obtain ⟨kZ, z1, -⟩ := Vm.findClass_spec h1
  obtain ⟨k', z2, z3⟩ := hZ.alike.2.2 _ _ z1
  cases h2.symm.trans z2
  have ei : kC.instanceTypes = kZ.instanceTypes := by rw [z3]
  have hN : ∀ x : Cell, (h.push x)[h.size]? = some x := fun x => by simp
  refine ⟨⟨_, kZ, hN _, h1, z1, rfl, fun _ => by simp [ei]⟩, fun {nm d ty} lw ht => ?_⟩
  obtain ⟨c1, k1, cf, kf, i, f, a1, a2, a3, a4, a5, a6, -⟩ := lw.spec
  cases h1.symm.trans a1
  cases z1.symm.trans a2
  exact ⟨_, cf, kf, i, f, hN _, a3, a4, by simp, rfl, a5, by simp [ei, a6, (State.fieldFound?_type a3 ht).2]⟩
theorem made_arr {h : Heap} {t : FieldType} {cA comp : ClassId} {kA : Class} {xs : Array Value} (hZ : Z.Warmed39 s.vm) (h1 : s.vm.findClass ("[" ++ t.toString) = some cA) (h2 : s.vm.classes[cA]? = some kA) (h3 : kA.kind = .array comp t) : Arr Z (h.push { cls := cA, slots := xs, vm := .none }) h.size { cls := cA, slots := xs, vm := .none } t := by
  rw [hZ.alike.findClass] at h1
  obtain ⟨kZ, z1, -⟩ := Vm.findClass_spec h1
  obtain ⟨k', z2, z3⟩ := hZ.alike.2.2 _ _ z1
  cases h2.symm.trans z2
  exact ⟨by simp, ⟨by simp, kZ, z1, comp, by rw [← h3, z3]⟩, by simp⟩
set_option maxHeartbeats 4000000 in
theorem stp_go (hG : Good P tb C fn F nsl nm bt R top) (hw : ∀ d ∈ tb, d.before a0 Z = true) (hm : m ∈ R) (hrow : P.1 m pc = some (ins, len, aux)) (h : stp P m ins len aux pc L S k n H = some q) (X : Stand p l e (rm P m) s mid args below meth c T locs k n) (hx : p.tables.exec = Jvm.exec) (hZ : Z.Warmed39 s.vm)
    (hby : c.code = bt m) (hml : c.maxLocals = ml P m) (hown : s.vm.findClass (nm m).cls = some mid.cls) (hnm : meth.name = (nm m).name) (hL : L.length = ml P m) (r : RelH C fn F Z n0 T.heap H) (N : Fr n0 locs) (hk : k ≤ (rm P m).cells) (hn : n ≤ (rm P m).slots) :
    Go C fn F Z n0 p l e (rm P m) s mid args below meth c (T.setTop (mkF mid pc L.toArray S)) (ml P m) q := by
  obtain ⟨hd, hl, ho⟩ := (hG.2.2.2.2.1 m hm).2.2 pc ins len aux hrow
  replace hd := hb hby hd
  cases ins with
  | iconst i =>
    have hl : len = 1 := hl; subst hl
    obtain rfl := Option.some.inj h
    exact go_same X r N hk hn hL fun t g => XS.iconst X.here hx rfl hd g
  | bipush i =>
    have hl : len = 2 := hl; subst hl
    obtain rfl := Option.some.inj h
    exact go_same X r N hk hn hL fun t g => XS.bipush X.here hx rfl hd g
  | sipush i =>
    have hl : len = 3 := hl; subst hl
    obtain rfl := Option.some.inj h
    exact go_same X r N hk hn hL fun t g => XS.sipush X.here hx rfl hd g
  | lconst i =>
    have hl : len = 1 := hl; subst hl
    obtain rfl := Option.some.inj h
    exact go_same X r N hk hn hL fun t g => XT.lconst X.here hx rfl hd g
  | ldc i =>
    have hl : len = 2 := hl; subst hl
    obtain rfl := Option.some.inj h
    exact go_same X r N hk hn hL fun t g => X.ldcI hx hown (mv hZ (hw _ ho)) rfl hd g
  | ldc2_w i =>
    have hl : len = 3 := hl; subst hl
    obtain rfl := Option.some.inj h
    exact go_same X r N hk hn hL fun t g => X.ldc2J hx hown (mv hZ (hw _ ho)) rfl hd g
  | iload i =>
    have hl : len = 2 := hl; subst hl
    obtain ⟨v, hv, rfl⟩ := Option.map_eq_some_iff.mp h
    obtain ⟨x, rfl, hg⟩ := ldI_ok hv
    exact go_same X r N hk hn hL fun t g => XS.iload X.here hx rfl hd hg g
  | iload_n i =>
    have hl : len = 1 := hl; subst hl
    obtain ⟨v, hv, rfl⟩ := Option.map_eq_some_iff.mp h
    obtain ⟨x, rfl, hg⟩ := ldI_ok hv
    exact go_same X r N hk hn hL fun t g => XS.iloadN X.here hx rfl hd hg g
  | lload i =>
    have hl : len = 2 := hl; subst hl
    obtain ⟨v, hv, rfl⟩ := Option.map_eq_some_iff.mp h
    obtain ⟨x, rfl, hg⟩ := ldJ_ok hv
    exact go_same X r N hk hn hL fun t g => XT.lload X.here hx rfl hd hg g
  | lload_n i =>
    have hl : len = 1 := hl; subst hl
    obtain ⟨v, hv, rfl⟩ := Option.map_eq_some_iff.mp h
    obtain ⟨x, rfl, hg⟩ := ldJ_ok hv
    exact go_same X r N hk hn hL fun t g => XT.lloadN X.here hx rfl hd hg g
  | aload i =>
    have hl : len = 2 := hl; subst hl
    obtain ⟨v, hv, rfl⟩ := Option.map_eq_some_iff.mp h
    obtain ⟨x, rfl, hg⟩ := ldR_ok hv
    exact go_same X r N hk hn hL fun t g => XS.aload X.here hx rfl hd hg rfl g
  | aload_n i =>
    have hl : len = 1 := hl; subst hl
    obtain ⟨v, hv, rfl⟩ := Option.map_eq_some_iff.mp h
    obtain ⟨x, rfl, hg⟩ := ldR_ok hv
    exact go_same X r N hk hn hL fun t g => XS.aloadN X.here hx rfl hd hg rfl g
  | istore i =>
    have hl : len = 2 := hl; subst hl
    dsimp only [stp] at h
    split at h
    · rename_i x S'
      obtain ⟨L', hv, rfl⟩ := Option.map_eq_some_iff.mp h
      obtain ⟨g1, g2⟩ := stl_ok rfl hv
      exact go_same X r N hk hn (g2.trans hL) fun t g => XS.istore X.here hx rfl hd rfl g1 g
    · cases h
  | istore_n i =>
    have hl : len = 1 := hl; subst hl
    dsimp only [stp] at h
    split at h
    · rename_i x S'
      obtain ⟨L', hv, rfl⟩ := Option.map_eq_some_iff.mp h
      obtain ⟨g1, g2⟩ := stl_ok rfl hv
      exact go_same X r N hk hn (g2.trans hL) fun t g => XS.istoreN X.here hx rfl hd rfl g1 g
    · cases h
  | astore i =>
    have hl : len = 2 := hl; subst hl
    dsimp only [stp] at h
    split at h
    · rename_i x S'
      obtain ⟨L', hv, rfl⟩ := Option.map_eq_some_iff.mp h
      obtain ⟨g1, g2⟩ := stl_ok rfl hv
      exact go_same X r N hk hn (g2.trans hL) fun t g => XS.astore X.here hx rfl hd rfl rfl g1 g
    · cases h
  | astore_n i =>
    have hl : len = 1 := hl; subst hl
    dsimp only [stp] at h
    split at h
    · rename_i x S'
      obtain ⟨L', hv, rfl⟩ := Option.map_eq_some_iff.mp h
      obtain ⟨g1, g2⟩ := stl_ok rfl hv
      exact go_same X r N hk hn (g2.trans hL) fun t g => XS.astoreN X.here hx rfl hd rfl rfl g1 g
    · cases h
  | lstore i =>
    have hl : len = 2 := hl; subst hl
    dsimp only [stp] at h
    split at h
    · rename_i x S'
      obtain ⟨L', hv, rfl⟩ := Option.map_eq_some_iff.mp h
      obtain ⟨g1, g2⟩ := stL_ok rfl hv
      exact go_same X r N hk hn (g2.trans hL) fun t g => XT.lstore X.here hx rfl hd rfl g1 g
    · cases h
  | lstore_n i =>
    have hl : len = 1 := hl; subst hl
    dsimp only [stp] at h
    split at h
    · rename_i x S'
      obtain ⟨L', hv, rfl⟩ := Option.map_eq_some_iff.mp h
      obtain ⟨g1, g2⟩ := stL_ok rfl hv
      exact go_same X r N hk hn (g2.trans hL) fun t g => XT.lstoreN X.here hx rfl hd rfl g1 g
    · cases h
  | iinc i cst =>
    have hl : len = 3 := hl; subst hl
    dsimp only [stp] at h
    split at h
    · rename_i x hx1
      obtain rfl := Option.some.inj h
      have g1 : storeLocals L.toArray i (.int (x + Int32.ofInt cst)) = some (L.set i (.val (.int (x + Int32.ofInt cst)))).toArray := (stl_ok rfl (stl_plain hx1 rfl)).1
      exact go_same X r N hk hn (by simpa using hL) fun t g => XS.iinc X.here hx rfl hd (arr_get hx1) g1 g
    · cases h
  | iadd =>
    have hl : len = 1 := hl; subst hl
    dsimp only [stp] at h
    split at h
    · rename_i y x S'
      obtain rfl := Option.some.inj h
      exact go_same X r N hk hn hL fun t g => XS.iadd X.here hx rfl hd rfl g
    · cases h
  | isub =>
    have hl : len = 1 := hl; subst hl
    dsimp only [stp] at h
    split at h
    · rename_i y x S'
      obtain rfl := Option.some.inj h
      exact go_same X r N hk hn hL fun t g => XS.isub X.here hx rfl hd rfl g
    · cases h
  | imul =>
    have hl : len = 1 := hl; subst hl
    dsimp only [stp] at h
    split at h
    · rename_i y x S'
      obtain rfl := Option.some.inj h
      exact go_same X r N hk hn hL fun t g => XS.imul X.here hx rfl hd rfl g
    · cases h
  | iand =>
    have hl : len = 1 := hl; subst hl
    dsimp only [stp] at h
    split at h
    · rename_i y x S'
      obtain rfl := Option.some.inj h
      exact go_same X r N hk hn hL fun t g => XS.iand X.here hx rfl hd rfl g
    · cases h
  | ior =>
    have hl : len = 1 := hl; subst hl
    dsimp only [stp] at h
    split at h
    · rename_i y x S'
      obtain rfl := Option.some.inj h
      exact go_same X r N hk hn hL fun t g => XT.ior X.here hx rfl hd rfl g
    · cases h
  | ixor =>
    have hl : len = 1 := hl; subst hl
    dsimp only [stp] at h
    split at h
    · rename_i y x S'
      obtain rfl := Option.some.inj h
      exact go_same X r N hk hn hL fun t g => XT.ixor X.here hx rfl hd rfl g
    · cases h
  | ishl =>
    have hl : len = 1 := hl; subst hl
    dsimp only [stp] at h
    split at h
    · rename_i y x S'
      obtain rfl := Option.some.inj h
      exact go_same X r N hk hn hL fun t g => XT.ishl X.here hx rfl hd rfl g
    · cases h
  | ishr =>
    have hl : len = 1 := hl; subst hl
    dsimp only [stp] at h
    split at h
    · rename_i y x S'
      obtain rfl := Option.some.inj h
      exact go_same X r N hk hn hL fun t g => XT.ishr X.here hx rfl hd rfl g
    · cases h
  | iushr =>
    have hl : len = 1 := hl; subst hl
    dsimp only [stp] at h
    split at h
    · rename_i y x S'
      obtain rfl := Option.some.inj h
      exact go_same X r N hk hn hL fun t g => XT.iushr X.here hx rfl hd rfl g
    · cases h
  | ladd =>
    have hl : len = 1 := hl; subst hl
    dsimp only [stp] at h
    split at h
    · rename_i y x S'
      obtain rfl := Option.some.inj h
      exact go_same X r N hk hn hL fun t g => XT.ladd X.here hx rfl hd rfl g
    · cases h
  | lsub =>
    have hl : len = 1 := hl; subst hl
    dsimp only [stp] at h
    split at h
    · rename_i y x S'
      obtain rfl := Option.some.inj h
      exact go_same X r N hk hn hL fun t g => XT.lsub X.here hx rfl hd rfl g
    · cases h
  | lmul =>
    have hl : len = 1 := hl; subst hl
    dsimp only [stp] at h
    split at h
    · rename_i y x S'
      obtain rfl := Option.some.inj h
      exact go_same X r N hk hn hL fun t g => XT.lmul X.here hx rfl hd rfl g
    · cases h
  | land =>
    have hl : len = 1 := hl; subst hl
    dsimp only [stp] at h
    split at h
    · rename_i y x S'
      obtain rfl := Option.some.inj h
      exact go_same X r N hk hn hL fun t g => XT.land X.here hx rfl hd rfl g
    · cases h
  | lor =>
    have hl : len = 1 := hl; subst hl
    dsimp only [stp] at h
    split at h
    · rename_i y x S'
      obtain rfl := Option.some.inj h
      exact go_same X r N hk hn hL fun t g => XT.lor X.here hx rfl hd rfl g
    · cases h
  | lxor =>
    have hl : len = 1 := hl; subst hl
    dsimp only [stp] at h
    split at h
    · rename_i y x S'
      obtain rfl := Option.some.inj h
      exact go_same X r N hk hn hL fun t g => XT.lxor X.here hx rfl hd rfl g
    · cases h
  | lshl =>
    have hl : len = 1 := hl; subst hl
    dsimp only [stp] at h
    split at h
    · rename_i y x S'
      obtain rfl := Option.some.inj h
      exact go_same X r N hk hn hL fun t g => XT.lshl X.here hx rfl hd rfl g
    · cases h
  | lshr =>
    have hl : len = 1 := hl; subst hl
    dsimp only [stp] at h
    split at h
    · rename_i y x S'
      obtain rfl := Option.some.inj h
      exact go_same X r N hk hn hL fun t g => XT.lshr X.here hx rfl hd rfl g
    · cases h
  | lushr =>
    have hl : len = 1 := hl; subst hl
    dsimp only [stp] at h
    split at h
    · rename_i y x S'
      obtain rfl := Option.some.inj h
      exact go_same X r N hk hn hL fun t g => XT.lushr X.here hx rfl hd rfl g
    · cases h
  | idiv =>
    have hl : len = 1 := hl; subst hl
    dsimp only [stp] at h
    split at h
    · rename_i y x S'
      split at h
      · cases h
      · rename_i g0
        obtain rfl := Option.some.inj h
        exact go_same X r N hk hn hL fun t g => XS.idiv X.here hx rfl hd rfl g0 g
    · cases h
  | irem =>
    have hl : len = 1 := hl; subst hl
    dsimp only [stp] at h
    split at h
    · rename_i y x S'
      split at h
      · cases h
      · rename_i g0
        obtain rfl := Option.some.inj h
        exact go_same X r N hk hn hL fun t g => iremM X hx rfl hd rfl g0 g
    · cases h
  | ldiv =>
    have hl : len = 1 := hl; subst hl
    dsimp only [stp] at h
    split at h
    · rename_i y x S'
      split at h
      · cases h
      · rename_i g0
        obtain rfl := Option.some.inj h
        exact go_same X r N hk hn hL fun t g => XT.ldiv X.here hx rfl hd rfl g0 g
    · cases h
  | lrem =>
    have hl : len = 1 := hl; subst hl
    dsimp only [stp] at h
    split at h
    · rename_i y x S'
      split at h
      · cases h
      · rename_i g0
        obtain rfl := Option.some.inj h
        exact go_same X r N hk hn hL fun t g => XT.lrem X.here hx rfl hd rfl g0 (by rw [lrem_mod]; exact g)
    · cases h
  | ineg =>
    have hl : len = 1 := hl; subst hl
    dsimp only [stp] at h
    split at h
    · rename_i x S'
      obtain rfl := Option.some.inj h
      exact go_same X r N hk hn hL fun t g => XS.ineg X.here hx rfl hd rfl g
    · cases h
  | lneg =>
    have hl : len = 1 := hl; subst hl
    dsimp only [stp] at h
    split at h
    · rename_i x S'
      obtain rfl := Option.some.inj h
      exact go_same X r N hk hn hL fun t g => XT.lneg X.here hx rfl hd rfl g
    · cases h
  | i2l =>
    have hl : len = 1 := hl; subst hl
    dsimp only [stp] at h
    split at h
    · rename_i x S'
      obtain rfl := Option.some.inj h
      exact go_same X r N hk hn hL fun t g => XT.i2l X.here hx rfl hd rfl g
    · cases h
  | l2i =>
    have hl : len = 1 := hl; subst hl
    dsimp only [stp] at h
    split at h
    · rename_i x S'
      obtain rfl := Option.some.inj h
      exact go_same X r N hk hn hL fun t g => XT.l2i X.here hx rfl hd rfl g
    · cases h
  | i2b =>
    have hl : len = 1 := hl; subst hl
    dsimp only [stp] at h
    split at h
    · rename_i x S'
      obtain rfl := Option.some.inj h
      exact go_same X r N hk hn hL fun t g => XT.i2b X.here hx rfl hd rfl g
    · cases h
  | lcmp =>
    have hl : len = 1 := hl; subst hl
    dsimp only [stp] at h
    split at h
    · rename_i y x S'
      obtain rfl := Option.some.inj h
      exact go_same X r N hk hn hL fun t g => XT.lcmp X.here hx rfl hd rfl g
    · cases h
  | dup =>
    have hl : len = 1 := hl; subst hl
    dsimp only [stp] at h
    split at h
    · rename_i v S'
      split at h
      · rename_i g0
        obtain rfl := Option.some.inj h
        exact go_same X r N hk hn hL fun t g => XS.dup X.here hx rfl hd rfl g0 g
      · cases h
    · cases h
  | pop =>
    have hl : len = 1 := hl; subst hl
    dsimp only [stp] at h
    split at h
    · rename_i v S'
      split at h
      · rename_i g0
        obtain rfl := Option.some.inj h
        exact go_same X r N hk hn hL fun t g => XT.pop X.here hx rfl hd rfl g0 g
      · cases h
    · cases h
  | dup2 =>
    have hl : len = 1 := hl; subst hl
    dsimp only [stp] at h
    split at h
    · rename_i x S'
      obtain rfl := Option.some.inj h
      exact go_same X r N hk hn hL fun t g => XT.dup2L X.here hx rfl hd rfl g
    · rename_i v w S' _
      split at h
      · rename_i g0
        obtain rfl := Option.some.inj h
        exact go_same X r N hk hn hL fun t g => XT.dup2 X.here hx rfl hd rfl g0.1 g0.2 g
      · cases h
    · cases h
  | goto o =>
    have hl : len = 3 := hl; subst hl
    obtain ⟨v, hv, rfl⟩ := Option.map_eq_some_iff.mp h
    obtain ⟨g1, g2⟩ := jmp_ok hv
    exact go_same X r N hk hn hL fun t g => XS.goto X.here hx rfl rfl hd g1 g2 g
  | ifCond cd o =>
    have hl : len = 3 := hl; subst hl
    dsimp only [stp] at h
    split at h
    · rename_i x S'
      split at h
      · rename_i g0
        obtain ⟨v, hv, rfl⟩ := Option.map_eq_some_iff.mp h
        obtain ⟨g1, g2⟩ := jmp_ok hv
        exact go_same X r N hk hn hL fun t g => XS.ifYes X.here hx rfl rfl hd rfl g0 g1 g2 g
      · rename_i g0
        obtain rfl := Option.some.inj h
        exact go_same X r N hk hn hL fun t g => XS.ifNo X.here hx rfl hd rfl (by simpa using g0) g
    · cases h
  | if_icmp cd o =>
    have hl : len = 3 := hl; subst hl
    dsimp only [stp] at h
    split at h
    · rename_i y x S'
      split at h
      · rename_i g0
        obtain ⟨v, hv, rfl⟩ := Option.map_eq_some_iff.mp h
        obtain ⟨g1, g2⟩ := jmp_ok hv
        exact go_same X r N hk hn hL fun t g => XS.icmpYes X.here hx rfl rfl hd rfl g0 g1 g2 g
      · rename_i g0
        obtain rfl := Option.some.inj h
        exact go_same X r N hk hn hL fun t g => XS.icmpNo X.here hx rfl hd rfl (by simpa using g0) g
    · cases h
  | tableswitch d lo hi os =>
    dsimp only [stp] at h
    split at h
    · rename_i x S'
      split at h
      · rename_i g0
        obtain ⟨v, hv, rfl⟩ := Option.map_eq_some_iff.mp h
        obtain ⟨g1, g2⟩ := jmp_ok hv
        exact go_same X r N hk hn hL fun t g => XS.tswOut X.here hx rfl rfl hd rfl g0 g1 g2 g
      · rename_i g0
        obtain ⟨o, ho1, h⟩ := Option.bind_eq_some_iff.mp h
        obtain ⟨v, hv, rfl⟩ := Option.map_eq_some_iff.mp h
        obtain ⟨g1, g2⟩ := jmp_ok hv
        exact go_same X r N hk hn hL fun t g => XS.tswIn X.here hx rfl rfl hd rfl g0 ho1 g1 g2 g
    · cases h
  | getfield i =>
    have hl : len = 3 := hl; subst hl
    dsimp only [stp] at h
    split at h
    · rename_i a S'
      split at h
      · rename_i g0
        obtain rfl := Option.some.inj h
        obtain ⟨T1, X1, e1, st1⟩ := getF X hx hZ hown (host := "") (Or.inl (hw _ ho.2)) Via.refl rfl ((r.obj g0).2 _ ho.1) (g := mkF mid pc L.toArray (.ref a :: S')) rfl rfl hd
        exact go_heap X1 r e1 N hk hn hL fun t g => st1 t g
      · cases h
    · cases h
  | putfield i =>
    have hl : len = 3 := hl; subst hl
    dsimp only [stp] at h
    split at h
    · rename_i v a S'
      split at h
      · rename_i g0
        obtain rfl := Option.some.inj h
        obtain ⟨o1, o2, o3⟩ := ho
        obtain ⟨w1, w2⟩ := isOw_ok g0.1
        obtain ⟨n1, n2⟩ := okv_ok g0.2
        have hlay : (Jvm.Cond.lays C C (fn aux.toNat).1 (fn aux.toNat).2).before a0 Z = true ∨ ((Jvm.Cond.laysFinal C C (fn aux.toNat).1 (fn aux.toNat).2).before a0 Z = true ∧ (nm m).cls = C ∧ meth.name = "<init>") := by
          rcases o3 with q | ⟨q1, q2⟩
          · exact Or.inl (hw _ q)
          · rcases (hG.2.2.1 _ o1).2 with q | q
            · exact Or.inl (hw _ q)
            · exact Or.inr ⟨hw _ q, q1, hnm.trans q2⟩
        obtain ⟨T1, h1, X1, e1, W1, st1⟩ := putF X hx hZ hown (host := "") (Or.inl (hw _ o2)) Via.refl rfl ((r.obj w1).2 _ o1) (r.obj w1).1 hlay (hw _ hG.1) (hG.2.2.1 _ o1).1 n1 n2 (g := mkF mid pc L.toArray (v :: .ref a :: S')) rfl rfl hd
        exact ⟨T1, _, X1, by rw [e1]; exact r.wrF hG hw w1 o1 W1, Fr.snoc X1 N (r.own w2), hk, hn, hL, st1⟩
      · cases h
    · cases h
  | iaload =>
    have hl : len = 1 := hl; subst hl
    dsimp only [stp] at h
    split at h
    · rename_i i a S'
      split at h
      · rename_i g0
        obtain rfl := Option.some.inj h
        obtain ⟨w1, w2, w3⟩ := inA_ok g0
        obtain ⟨b1, cl, b2, b3, b4⟩ := r.arr w1
        exact go_same X r N hk hn hL fun t g => X.iaload hx (g := mkF mid pc L.toArray (.int i :: .ref a :: S')) b2.1 (State.isArrayOf_alike hZ.alike b2.2.1) b2.2.2 (by rw [b3]; exact idx_not w2 w3) (b4 _ w3) rfl rfl hd t g
      · cases h
    · cases h
  | laload =>
    have hl : len = 1 := hl; subst hl
    dsimp only [stp] at h
    split at h
    · rename_i i a S'
      split at h
      · rename_i g0
        obtain rfl := Option.some.inj h
        obtain ⟨w1, w2, w3⟩ := inA_ok g0
        obtain ⟨b1, cl, b2, b3, b4⟩ := r.arr w1
        exact go_same X r N hk hn hL fun t g => X.laload hx (g := mkF mid pc L.toArray (.int i :: .ref a :: S')) b2.1 (State.isArrayOf_alike hZ.alike b2.2.1) b2.2.2 (by rw [b3]; exact idx_not w2 w3) (b4 _ w3) rfl rfl hd t g
      · cases h
    · cases h
  | baload =>
    have hl : len = 1 := hl; subst hl
    dsimp only [stp] at h
    split at h
    · rename_i i a S'
      split at h
      · rename_i g0
        obtain rfl := Option.some.inj h
        rcases g0 with g0 | g0
        · obtain ⟨w1, w2, w3⟩ := inA_ok g0
          obtain ⟨b1, cl, b2, b3, b4⟩ := r.arr w1
          exact go_same X r N hk hn hL fun t g => X.baloadBytes hx (g := mkF mid pc L.toArray (.int i :: .ref a :: S')) b2.1 (State.isArrayOf_alike hZ.alike b2.2.1) b2.2.2 (by rw [b3]; exact idx_not w2 w3) (b4 _ w3) rfl rfl hd t g
        · obtain ⟨w1, w2, w3⟩ := inA_ok g0
          obtain ⟨b1, cl, b2, b3, b4⟩ := r.arr w1
          exact go_same X r N hk hn hL fun t g => X.baloadBooleans hx (g := mkF mid pc L.toArray (.int i :: .ref a :: S')) b2.1 (State.isArrayOf_alike hZ.alike b2.2.1) b2.2.2 (by rw [b3]; exact idx_not w2 w3) (b4 _ w3) rfl rfl hd t g
      · cases h
    · cases h
  | iastore =>
    have hl : len = 1 := hl; subst hl
    dsimp only [stp] at h
    split at h
    · rename_i x i a S'
      split at h
      · rename_i g0
        obtain rfl := Option.some.inj h
        obtain ⟨g1, g2⟩ := inAw_ok g0
        obtain ⟨w1, w2, w3⟩ := inA_ok g1
        obtain ⟨b1, cl, b2, b3, b4⟩ := r.arr w1
        obtain ⟨T1, h1, X1, e1, W1, st1⟩ := stI X hx hZ rfl b2 (j := i) (x := x) (by rw [b3]; exact idx_not w2 w3) (g := mkF mid pc L.toArray (.int x :: .int i :: .ref a :: S')) rfl rfl hd
        exact ⟨T1, _, X1, by rw [e1]; exact r.wrA w1 w3 W1, Fr.snoc X1 N (r.own g2), hk, hn, hL, st1⟩
      · cases h
    · cases h
  | lastore =>
    have hl : len = 1 := hl; subst hl
    dsimp only [stp] at h
    split at h
    · rename_i x i a S'
      split at h
      · rename_i g0
        obtain rfl := Option.some.inj h
        obtain ⟨g1, g2⟩ := inAw_ok g0
        obtain ⟨w1, w2, w3⟩ := inA_ok g1
        obtain ⟨b1, cl, b2, b3, b4⟩ := r.arr w1
        obtain ⟨T1, h1, X1, e1, W1, st1⟩ := stJ X hx hZ rfl b2 (j := i) (x := x) (by rw [b3]; exact idx_not w2 w3) (g := mkF mid pc L.toArray (.long x :: .int i :: .ref a :: S')) rfl rfl hd
        exact ⟨T1, _, X1, by rw [e1]; exact r.wrA w1 w3 W1, Fr.snoc X1 N (r.own g2), hk, hn, hL, st1⟩
      · cases h
    · cases h
  | bastore =>
    have hl : len = 1 := hl; subst hl
    dsimp only [stp] at h
    split at h
    · rename_i x i a S'
      split at h
      · rename_i g0
        obtain rfl := Option.some.inj h
        rcases g0 with ⟨g0, gx⟩ | ⟨g0, gx⟩
        · obtain ⟨g1, g2⟩ := inAw_ok g0
          obtain ⟨w1, w2, w3⟩ := inA_ok g1
          obtain ⟨b1, cl, b2, b3, b4⟩ := r.arr w1
          have hx2 : nar .byte x = x := Value.int.inj (okv_ok gx).1
          obtain ⟨T1, h1, X1, e1, W1, st1⟩ := stB X hx hZ rfl b2 (j := i) (x := x) (by rw [b3]; exact idx_not w2 w3) (g := mkF mid pc L.toArray (.int x :: .int i :: .ref a :: S')) rfl rfl hd
          rw [hx2] at W1
          exact ⟨T1, _, X1, by rw [e1]; exact r.wrA w1 w3 W1, Fr.snoc X1 N (r.own g2), hk, hn, hL, st1⟩
        · obtain ⟨g1, g2⟩ := inAw_ok g0
          obtain ⟨w1, w2, w3⟩ := inA_ok g1
          obtain ⟨b1, cl, b2, b3, b4⟩ := r.arr w1
          have hx2 : nar .boolean x = x := Value.int.inj (okv_ok gx).1
          obtain ⟨T1, h1, X1, e1, W1, st1⟩ := stZ X hx hZ rfl b2 (j := i) (x := x) (by rw [b3]; exact idx_not w2 w3) (g := mkF mid pc L.toArray (.int x :: .int i :: .ref a :: S')) rfl rfl hd
          rw [hx2] at W1
          exact ⟨T1, _, X1, by rw [e1]; exact r.wrA w1 w3 W1, Fr.snoc X1 N (r.own g2), hk, hn, hL, st1⟩
      · cases h
    · cases h
  | arraylength =>
    have hl : len = 1 := hl; subst hl
    dsimp only [stp] at h
    split at h
    · rename_i a S'
      split at h
      · rename_i g0
        obtain rfl := Option.some.inj h
        obtain ⟨t0, w1⟩ : ∃ t0, (H.2 a).1 = .array t0 := by unfold isA at g0; cases hq : (H.2 a).1 <;> rw [hq] at g0 <;> first | (cases g0; done) | exact ⟨_, rfl⟩
        obtain ⟨b1, cl, b2, b3, b4⟩ := r.arr w1
        refine go_same X r N hk hn hL fun t g => X.arraylength hx (g := mkF mid pc L.toArray (.ref a :: S')) b2.1 (State.isArrayOf_alike hZ.alike b2.2.1) rfl rfl hd t ?_
        rw [b3]; exact g
      · cases h
    · cases h
  | newarray t =>
    have hl : len = 2 := hl; subst hl
    dsimp only [stp] at h
    split at h
    · rename_i cnt S'
      split at h
      · rename_i g0
        obtain rfl := Option.some.inj h
        obtain ⟨z1, z2, z3, z4⟩ := g0
        have hcb : componentBytes (newarray.typeOf t) ≤ 8 := by cases t <;> decide
        obtain ⟨cA, kA, comp, h1, h2, h3, X1, st1⟩ := X.newarrayPrim hx (mvA hZ (hw _ ho)) (g := mkF mid pc L.toArray (.int cnt :: S')) rfl hd rfl z1 (Nat.le_trans (Nat.mul_le_mul_left _ hcb) z2) z3 z4
        refine ⟨_, locs, X1, ?_, N, z3, z4, hL, fun t g => st1 t (by rw [r.1]; exact g)⟩
        exact r.ext (ext_push _ _) (by show (T.heap.push _).size = _; simp) ⟨fun _ => by rw [r.1]; exact r.2.1, (back32 z1).2, _, made_arr hZ h1 h2 h3, by simp, fun i hi => by simp [hi]⟩
      · cases h
    · cases h
  | new i =>
    have hl : len = 3 := hl; subst hl
    dsimp only [stp] at h
    split at h
    · rename_i g0
      obtain rfl := Option.some.inj h
      obtain ⟨z1, z2, z3⟩ := g0
      rw [ho.1] at z3 ⊢
      obtain ⟨vm1, cC, kC, h1, h2, h3, h4, X1, st1⟩ := X.newCold hx hown (mv hZ (hw _ ho.2)) (mv hZ (hw _ hG.1)) (mv hZ (hw _ hG.2.1)) (g := mkF mid pc L.toArray S) rfl hd z2 z3
      obtain ⟨A1, D1⟩ := made_obj (h := T.heap) (a0 := a0) hZ h1 h2
      refine ⟨_, locs, X1, ?_, N, z2, z3, hL, fun t g => st1 t (by rw [r.1]; exact g)⟩
      exact r.ext (ext_push _ _) (by show (T.heap.push _).size = _; simp) ⟨fun _ => by rw [r.1]; exact r.2.1, A1, fun j hj => D1 (((hG.2.2.1 j hj).2).imp (hw _) (hw _)) (hG.2.2.1 j hj).1⟩
    · cases h
  | invokespecial i =>
    have hl : len = 3 := hl; subst hl
    dsimp only [stp] at h
    split at h
    · rename_i a S'
      split at h
      · rename_i g0
        obtain rfl := Option.some.inj h
        obtain ⟨rfl, z2, z3⟩ := g0
        obtain ⟨o1, o2, o3⟩ := ho.1 rfl
        obtain ⟨T1, X1, e1, st1⟩ := initO X hx hZ hown (hw _ o1) (hw _ o2) (hw _ o3) rfl (g := mkF mid pc L.toArray (.ref a :: S')) rfl (by rw [hml, ← hL]; simp) rfl hd z2 (W := cs S') (by show 2 * 0 + _ ≤ _; exact Nat.le_of_eq (Nat.zero_add _)) z3
        exact go_heap X1 r e1 N hk hn hL fun t g => st1 t g
      · cases h
    · cases h
  | _ => exact absurd (show (none : Option Fm) = some q from h) (by simp)
end Step
end Jvm.JX

namespace Jvm.JX
open Sem ClassFile Op Lib Jvm.Stand Jvm.Free Jvm.LawKit Jvm.RoadKit
section Sound
variable {P : Prog} {tb : List Jvm.Cond} {C : String} {fn : Nat → String × String} {F : List Nat} {nsl : Nat} {nm : Nat → MethodName} {bt : Nat → ByteArray} {R : List Nat} {top : Nat}
variable {l : Launch} {Z : State} {a0 : Array Value} {n0 : Nat}
def Endd (C : String) (fn : Nat → String × String) (F : List Nat) (Z : State) (n0 : Nat) (p : Program) (l : Launch) (e : Env) (Rm : Jvm.Room) (s : State) (mid : MethodId) (args : Array Value) (below : List Frame) (meth : Method) (c : Code) (rt0 : Option FieldType) (start : State) (v : Option Value) (H' : AH) : Prop :=
  ∃ T' locs' k' n', Stand p l e Rm s mid args below meth c T' locs' k' n' ∧ RelH C fn F Z n0 T'.heap H' ∧ Fr n0 locs' ∧ k' ≤ Rm.cells ∧ n' ≤ Rm.slots ∧ (rt0 = none → v = none) ∧
    ∀ fs, (∀ (f : JFrame) (acts : List Action), f.method = mid → f.locked = none → f.entered = [] → (doReturn e (T'.setTop f) acts v).1 = T'.setFrames fs) → Steps p.tables e below start (T'.setFrames fs)
def Says (P : Prog) (C : String) (fn : Nat → String × String) (F : List Nat) (nm : Nat → MethodName) (bt : Nat → ByteArray) (l : Launch) (Z : State) (n0 m pc : Nat) (L : List Slot) (S : List Value) (k n : Nat) (H : AH) (v : Option Value) (H' : AH) : Prop :=
  ∀ (p : Program) (e : Env) (s : State) (mid : MethodId) (args : Array Value) (below : List Frame) (meth : Method) (c : Code) (T : State) (locs : List Loc), Stand p l e (rm P m) s mid args below meth c T locs k n → p.tables.exec = Jvm.exec → Z.Warmed39 s.vm → c.code = bt m → c.maxLocals = ml P m →
    s.vm.findClass (nm m).cls = some mid.cls → meth.name = (nm m).name → meth.sig.returnType = rt P m → L.length = ml P m → RelH C fn F Z n0 T.heap H → Fr n0 locs → k ≤ (rm P m).cells → n ≤ (rm P m).slots →
    Endd C fn F Z n0 p l e (rm P m) s mid args below meth c (rt P m) (T.setTop (mkF mid pc L.toArray S)) v H'
theorem Endd.back {p : Program} {e : Env} {Rm : Jvm.Room} {s : State} {mid : MethodId} {args : Array Value} {below : List Frame} {meth : Method} {c : Code} {rt0 : Option FieldType} {start start' : State} {v : Option Value} {H' : AH}
    (h : Endd C fn F Z n0 p l e Rm s mid args below meth c rt0 start' v H') (st : ∀ t, Steps p.tables e below start' t → Steps p.tables e below start t) : Endd C fn F Z n0 p l e Rm s mid args below meth c rt0 start v H' := by
  obtain ⟨T', locs', k', n', h1, h2, h3, h4, h5, h6, h7⟩ := h
  exact ⟨T', locs', k', n', h1, h2, h3, h4, h5, h6, fun fs g => st _ (h7 fs g)⟩
theorem met_of {m : Nat} {as : List Value} {H H' : AH} {v : Option Value} {h : Heap} (ws : List Jvm.Cond) (hp : plainName (nm m).cls = true) (hl : (Sym.laidSlots as).length ≤ ml P m) (r : RelH C fn F Z n0 h H)
    (hS : Says P C fn F nm bt l Z n0 m 0 (ent P m as) [] 0 0 H v H') :
    MetFree l (nm m) (head1 (Jvm.Cond.code (nm m) (bt m) (ml P m) (rt P m) :: ws) (rm P m)) (fun a U => a = as.toArray ∧ Z.Warmed39 U.vm ∧ U.heap = h) (fun _ _ _ _ _ => True)
      (fun _ U o U' => ∃ v' L, o = .returned v' ∧ (v' = v ∧ Fr n0 L ∧ RelH C fn F Z n0 U'.heap H') ∧ FrameEnd U o U' L (rm P m).cells (rm P m).slots) := by
  refine MetFree.of_bodySF (plainFor_of_name hp) hisR ?_
  intro p e s mid args below meth c s₁ Bd hml0 hP hK
  obtain ⟨rfl, hZ, hh⟩ := hP
  have X0 : Stand p l e (rm P m) s mid as.toArray below meth c s₁ [] 0 0 := Stand.of_body Bd
  have e0 : s₁.heap = h := by rw [← hh, Bd.state]; rfl
  have hle : (ent P m as).length = ml P m := by simp [ent]; omega
  obtain ⟨T', locs', k', n', X1, r1, N1, hk1, hn1, hv1, st1⟩ := hS p e s mid as.toArray below meth c s₁ [] X0 Bd.exec hZ Bd.bytes hml0 (findClass_of_methodNamed Bd.named) (name_of_methodNamed Bd.named Bd.method).1 Bd.returns hle (by rw [e0]; exact r) (Fr.nil n0) (Nat.zero_le _) (Nat.zero_le _)
  obtain ⟨fs, hr, hrun, hended, hW, hsame⟩ := X1.leave (v := v) (fun q => hv1 (Bd.returns.symm.trans q))
  refine ⟨_, _, (Jvm.Free.XT.entry (Ls := (ent P m as).toArray) (by simp [ent])).trans (st1 fs hr), hrun, hended, v, locs', rfl, ⟨rfl, N1, r1⟩, ⟨_, rfl⟩, hW, hsame.mono hk1 hn1⟩
theorem ret_ok {m : Nat} {ins : Instr} {S : List Value} {v : Option Value} (h : ret P m ins S = some v) : (rt P m = none ∧ v = none ∧ ins = .return_ ∧ S = []) ∨ ∃ t w rest, rt P m = some t ∧ v = some w ∧ S = w :: rest ∧ narrow t w = w ∧
    ((ins = .ireturn ∧ (t = .int ∨ t = .boolean ∨ t = .byte ∨ t = .char ∨ t = .short) ∧ ∃ z, w = .int z) ∨ (ins = .lreturn ∧ t = .long ∧ ∃ z, w = .long z)) := by
  unfold ret at h
  split at h
  · split at h
    · rename_i g; cases h; exact Or.inl ⟨g.1, rfl, rfl, g.2⟩
    · cases h
  · split at h
    · rename_i z rest g; cases h; exact Or.inr ⟨.int, _, rest, g, rfl, rfl, rfl, Or.inl ⟨rfl, Or.inl rfl, z, rfl⟩⟩
    · rename_i z rest g
      split at h
      · rename_i g0
        cases h
        refine Or.inr ⟨.boolean, _, rest, g, rfl, rfl, ?_, Or.inl ⟨rfl, Or.inr (Or.inl rfl), z, rfl⟩⟩
        rcases g0 with rfl | rfl <;> rfl
      · cases h
    · cases h
  · split at h
    · rename_i z rest g; cases h; exact Or.inr ⟨.long, _, rest, g, rfl, rfl, rfl, Or.inr ⟨rfl, rfl, z, rfl⟩⟩
    · cases h
  · cases h
theorem cal_ok {m m' k n : Nat} {ins : Instr} {aux : Int} {S a r : List Value} {H : AH} (h : cal P m ins aux S k n H = some (m', a, r)) : aux = (m' : Int) ∧ kindOk ins (kd P m') = true ∧ may P m m' a r k n H = true ∧ S = a.reverse ++ r := by
  have h1 : cal1 P m ins aux S k n H = some (m', a, r) := by
    unfold cal at h
    split at h <;> first | exact h | (cases h)
  unfold cal1 at h1
  split at h1
  · rename_i g
    cases h1
    exact ⟨by omega, g.2.1, g.2.2, by rw [List.reverse_reverse]; exact (List.take_append_drop ..).symm⟩
  · cases h1
end Sound
end Jvm.JX

namespace Jvm.JX
open Sem ClassFile Op Lib Jvm.Stand Jvm.Free Jvm.LawKit Jvm.RoadKit
section Sound
variable {P : Prog} {tb : List Jvm.Cond} {C : String} {fn : Nat → String × String} {F : List Nat} {nsl : Nat} {nm : Nat → MethodName} {bt : Nat → ByteArray} {R : List Nat} {top : Nat}
variable {l : Launch} {Z : State} {a0 : Array Value} {n0 : Nat}
theorem may_ok {m m' k n : Nat} {a r : List Value} {H : AH} (h : may P m m' a r k n H = true) : (Sym.laidSlots a).length ≤ ml P m' ∧ a.length = na P m' ∧ (rm P m').frames + 1 ≤ (rm P m).frames ∧ cs r + (ml P m' + 11) + (rm P m').locals ≤ (rm P m).locals ∧
    (((rm P m').cells = 0 ∧ (rm P m').slots = 0) ∨ (k + (rm P m').cells ≤ (rm P m).cells ∧ n + (rm P m').slots ≤ (rm P m).slots)) ∧ (kd P m' = 0 ∨ rcv H a = true) := by
  simpa [may, and_assoc] using h
theorem rcv_ok {H : AH} {a : List Value} (h : rcv H a = true) : ∃ b as, a = .ref b :: as ∧ isO H b = true := by
  unfold rcv at h
  split at h
  · exact ⟨_, _, rfl, h⟩
  · cases h
set_option maxHeartbeats 1000000 in
theorem call_go {m pc len k n m' : Nat} {aux : Int} {L : List Slot} {S a r : List Value} {H H1 : AH} {ins : Instr} {v1 : Option Value} {p : Program} {e : Env} {s : State} {mid : MethodId} {args : Array Value} {below : List Frame} {meth : Method} {c : Code} {T : State} {locs : List Loc}
    (hG : Good P tb C fn F nsl nm bt R top) (hw : ∀ d ∈ tb, d.before a0 Z = true) (hm : m ∈ R) (hrow : P.1 m pc = some (ins, len, aux)) (hc : cal P m ins aux S k n H = some (m', a, r)) (hS : m' ∈ R → Says P C fn F nm bt l Z n0 m' 0 (ent P m' a) [] 0 0 H v1 H1)
    (X : Stand p l e (rm P m) s mid args below meth c T locs k n) (hx : p.tables.exec = Jvm.exec) (hZ : Z.Warmed39 s.vm)
    (hby : c.code = bt m) (hml : c.maxLocals = ml P m) (hown : s.vm.findClass (nm m).cls = some mid.cls) (hL : L.length = ml P m) (rr : RelH C fn F Z n0 T.heap H) (N : Fr n0 locs) (hk : k ≤ (rm P m).cells) (hn : n ≤ (rm P m).slots) :
    Go C fn F Z n0 p l e (rm P m) s mid args below meth c (T.setTop (mkF mid pc L.toArray S)) (ml P m) (pc + len, L, v1.toList ++ r, k + (rm P m').cells, n + (rm P m').slots, H1) := by
  obtain ⟨hd, hl, ho⟩ := (hG.2.2.2.2.1 m hm).2.2 pc ins len aux hrow
  replace hd := hb hby hd
  obtain ⟨e1, e2, e3, e4⟩ := cal_ok hc
  obtain ⟨y1, y2, y3, y4, y5, y6⟩ := may_ok e3
  have hnt : m' ≠ top := fun q => by
    have := hG.2.2.2.2.2.2 m hm pc ins len aux hrow (by rw [e1, q])
    rw [q, this] at e2; cases e2
  have y5' : k + (rm P m').cells ≤ (rm P m).cells ∧ n + (rm P m').slots ≤ (rm P m).slots := by rcases y5 with ⟨q1, q2⟩ | q <;> omega
  have hsize : (mkF mid pc L.toArray S).locals.size = c.maxLocals := by rw [hml, ← hL]; simp
  have hcs : 2 * (mkF mid pc L.toArray S).monitorRoom + (r.map fun v => v.category).sum ≤ cs r := by show 2 * 0 + _ ≤ _; exact Nat.le_of_eq (Nat.zero_add _)
  subst e1
  cases ins with
  | invokevirtual ix =>
    have hl : len = 3 := hl
    subst hl
    obtain ⟨mR, lnk⟩ := ho
    rw [Int.toNat_natCast] at mR lnk
    obtain ⟨c1, c2, ⟨ps, rr0, c3, c4⟩, c5, c6, c7, c8, c9⟩ := hG.2.2.2.2.2.1 m' mR hnt
    have hk0 : kd P m' ≠ 0 := fun q => by rw [q] at e2; cases e2
    obtain ⟨hcls, hinst⟩ := c6 hk0
    obtain ⟨b, as, rfl, hb⟩ := rcv_ok (y6.resolve_left hk0)
    obtain ⟨Eb, -⟩ := rr.obj hb
    have hlen : as.length = ps.length := by rw [if_neg hk0] at c4; simp only [List.length_cons] at y2; omega
    have eS : S = as.reverse ++ .ref b :: r := by rw [e4]; simp
    subst eS
    obtain ⟨pn, hy, -⟩ := hG.2.2.2.2.1 m' mR
    have BK := backOf (Q := fun v' h' L' => v' = v1 ∧ Fr n0 L' ∧ RelH C fn F Z n0 h' H1) (R := rm P m) (W := cs r) (p := p) (e := e) (below := below) (s := s) (args := args) (len := 3) (met_of [] pn y1 rr (hS mR)) hZ (hw _ c1) (hw _ c2) y3 y4
    have hkk : kd P m' = 1 ∨ kd P m' = 2 := by simpa [kindOk] using e2
    rcases hkk with hkk | hkk
    · obtain ⟨d1, d2⟩ := c7 hkk
      obtain ⟨cB, kB, q1, q2, q3⟩ := isOf (T := T) hZ rfl Eb
      obtain ⟨v, vm1, ⟨T1, L1, k1, n1⟩, -, X1, ⟨Lc, hQ, l1, z1, z2⟩, st⟩ := X.virtualBack hx (y := nm m') (z := nm m') hown (mvT hZ (hw _ lnk)) (mvT hZ (hw _ d1)) (notFace_of_selects (args := #[]) (mvT hZ (hw _ d2))) (mvT hZ (hw _ d2)) (mvT hZ (hw _ hinst)) hy BK q1 q3 (g := mkF mid pc L.toArray (as.reverse ++ .ref b :: r)) rfl hsize (Steps.refl _) (argsL := as) (rest := r) (lenOf c3 hlen) rfl hcs hd (fun _ _ => ⟨rfl, rfl, y5'.1, y5'.2⟩)
      dsimp only [Pt.U, Pt.locs, Pt.cells, Pt.slots] at X1 l1 z1 z2 st hQ
      subst l1 z1 z2
      obtain ⟨rfl, N1, r1⟩ := hQ
      exact ⟨T1, _, X1, r1, Fr.app N N1, y5'.1, y5'.2, hL, fun t g => st.trans g⟩
    · obtain ⟨ci, ki, i1, i2, i3, i4, -⟩ := Cond.instantiable_spec (show (Jvm.Cond.instantiable C nsl).before args s = true from mv hZ (hw _ hG.1))
      have hni : ki.isInterface = false := (Bool.or_eq_false_iff.mp i4).1
      have hpriv := Cond.privateMethod_at (mvP hZ (hw _ (c8 hkk)) (args := #[]))
      have hsel : (Jvm.Cond.selects (nm m').cls (nm m') (nm m')).before args s = true := selects_self_of_private (by rw [hcls]; exact i1) i2 hni hpriv (mvT hZ (hw _ hinst)) hy
      obtain ⟨cl, hcl, hcl'⟩ := Eb.cell
      obtain ⟨v, vm1, ⟨T1, L1, k1, n1⟩, -, X1, ⟨Lc, hQ, l1, z1, z2⟩, st⟩ := X.privateBack hx (y := nm m') hown (mvT hZ (hw _ lnk)) (mvT hZ (hw _ hinst)) hsel hpriv (mvT hZ (hw _ c1)) hy BK (g := mkF mid pc L.toArray (as.reverse ++ .ref b :: r)) rfl hsize (Steps.refl _) (a := b) hcl hcl' (argsL := as) (rest := r) (lenOf c3 hlen) rfl hcs hd (fun _ _ => ⟨rfl, rfl, y5'.1, y5'.2⟩)
      dsimp only [Pt.U, Pt.locs, Pt.cells, Pt.slots] at X1 l1 z1 z2 st hQ
      subst l1 z1 z2
      obtain ⟨rfl, N1, r1⟩ := hQ
      exact ⟨T1, _, X1, r1, Fr.app N N1, y5'.1, y5'.2, hL, fun t g => st.trans g⟩
  | invokestatic ix =>
    have hl : len = 3 := hl
    subst hl
    obtain ⟨mR, lnk⟩ := ho
    rw [Int.toNat_natCast] at mR lnk
    obtain ⟨c1, c2, ⟨ps, rr0, c3, c4⟩, c5, c6, c7, c8, c9⟩ := hG.2.2.2.2.2.1 m' mR hnt
    have hk0 : kd P m' = 0 := by simpa [kindOk] using e2
    have hlen : a.length = ps.length := by rw [if_pos hk0] at c4; omega
    subst e4
    obtain ⟨pn, hy, -⟩ := hG.2.2.2.2.1 m' mR
    have BK := backOf (Q := fun v' h' L' => v' = v1 ∧ Fr n0 L' ∧ RelH C fn F Z n0 h' H1) (R := rm P m) (W := cs r) (p := p) (e := e) (below := below) (s := s) (args := args) (len := 3) (met_of [] pn y1 rr (hS mR)) hZ (hw _ c1) (hw _ c2) y3 y4
    obtain ⟨v, vm1, ⟨T1, L1, k1, n1⟩, -, X1, ⟨Lc, hQ, l1, z1, z2⟩, st⟩ := Jvm.LawKit.callS X hx (y := nm m') hown (mvT hZ (hw _ lnk)) (mvT hZ (hw _ (c5 hk0))) (mvT hZ (hw _ c2)) (mvT hZ (hw _ c1)) hy BK (g := mkF mid pc L.toArray (a.reverse ++ r)) rfl hsize (argsL := a) (rest := r) (lenOf c3 hlen) rfl hcs hd (fun _ _ => ⟨rfl, rfl, y5'.1, y5'.2⟩)
    dsimp only [Pt.U, Pt.locs, Pt.cells, Pt.slots] at X1 l1 z1 z2 st hQ
    subst l1 z1 z2
    obtain ⟨rfl, N1, r1⟩ := hQ
    exact ⟨T1, _, X1, r1, Fr.app N N1, y5'.1, y5'.2, hL, fun t g => st t g⟩
  | invokespecial ix =>
    have hl : len = 3 := hl
    subst hl
    obtain ⟨mR, lnk⟩ := ho.2 (by omega)
    rw [Int.toNat_natCast] at mR lnk
    obtain ⟨c1, c2, ⟨ps, rr0, c3, c4⟩, c5, c6, c7, c8, c9⟩ := hG.2.2.2.2.2.1 m' mR hnt
    have hk3 : kd P m' = 3 := by simpa [kindOk] using e2
    have hk0 : kd P m' ≠ 0 := by omega
    obtain ⟨hcls, hinst⟩ := c6 hk0
    obtain ⟨hn3, hr3⟩ := c9 hk3
    obtain ⟨b, as, rfl, hb⟩ := rcv_ok (y6.resolve_left hk0)
    have hlen : as.length = ps.length := by rw [if_neg hk0] at c4; simp only [List.length_cons] at y2; omega
    have eS : S = as.reverse ++ .ref b :: r := by rw [e4]; simp
    subst eS
    obtain ⟨pn, hy, -⟩ := hG.2.2.2.2.1 m' mR
    have BK := backOf (Q := fun v' h' L' => v' = v1 ∧ Fr n0 L' ∧ RelH C fn F Z n0 h' H1) (R := rm P m) (W := cs r) (p := p) (e := e) (below := below) (s := s) (args := args) (len := 3) (met_of [] pn y1 rr (hS mR)) hZ (hw _ c1) (hw _ c2) y3 y4
    rw [hr3] at c1
    obtain ⟨v, vm1, ⟨T1, L1, k1, n1⟩, -, X1, ⟨Lc, hQ, l1, z1, z2⟩, st⟩ := X.specialBack hx (y := nm m') hn3 hown (mvT hZ (hw _ lnk)) (mvT hZ (hw _ hinst)) (mvT hZ (hw _ c1)) hy BK (g := mkF mid pc L.toArray (as.reverse ++ .ref b :: r)) rfl hsize (Steps.refl _) (a := b) (argsL := as) (rest := r) (lenOf c3 hlen) rfl hcs hd (fun _ _ => ⟨rfl, rfl, y5'.1, y5'.2⟩)
    dsimp only [Pt.U, Pt.locs, Pt.cells, Pt.slots] at X1 l1 z1 z2 st hQ
    subst l1 z1 z2
    obtain ⟨rfl, N1, r1⟩ := hQ
    exact ⟨T1, _, X1, r1, Fr.app N N1, y5'.1, y5'.2, hL, fun t g => st.trans g⟩
  | _ => cases e2
theorem sound (hG : Good P tb C fn F nsl nm bt R top) (hw : ∀ d ∈ tb, d.before a0 Z = true) : ∀ (f m : Nat), m ∈ R → ∀ (pc : Nat) (L : List Slot) (S : List Value) (k n : Nat) (H : AH) (v : Option Value) (H' : AH), run P f m pc L S k n H = some (v, H') → Says P C fn F nm bt l Z n0 m pc L S k n H v H' := by
  intro f
  induction f with
  | zero => intro m _ pc L S k n H v H' h; cases h
  | succ f ih =>
    intro m hm pc L S k n H v H' h p e s mid args below meth c T locs X hx hZ hby hml hown hnm hret hL r N hk hn
    rw [run_succ] at h
    cases hd : P.1 m pc with
    | none => rw [hd] at h; cases h
    | some d =>
      obtain ⟨ins, len, aux⟩ := d
      rw [hd] at h
      simp only at h
      cases hr : ret P m ins S with
      | some v1 =>
        rw [hr] at h
        cases h
        obtain ⟨hdec, hl, -⟩ := (hG.2.2.2.2.1 m hm).2.2 pc ins len aux hd
        replace hdec := hb hby hdec
        rcases ret_ok hr with ⟨q1, rfl, rfl, q0⟩ | ⟨t, w, rest, q1, rfl, rfl, q4, q5⟩
        · have hl : len = 1 := hl
          subst hl
          exact ⟨T, locs, k, n, X, r, N, hk, hn, fun _ => rfl, fun fs g => by subst q0; exact X.returnOut hx (hret.trans q1) hdec g⟩
        · refine ⟨T, locs, k, n, X, r, N, hk, hn, fun q => absurd (q1.symm.trans q) (by simp), fun fs g => ?_⟩
          have hl1 : len = 1 := by
            rcases q5 with ⟨rfl, -⟩ | ⟨rfl, -⟩ <;> exact hl
          subst hl1
          exact retOut X hx (hret.trans q1) q4 (q5.elim (fun u => Or.inl u) (fun u => Or.inr (Or.inl u))) hdec g
      | none =>
        rw [hr] at h
        simp only at h
        cases hc : cal P m ins aux S k n H with
        | some cc =>
          obtain ⟨m', a, rs⟩ := cc
          rw [hc] at h
          simp only at h
          cases hq : run P f m' 0 (ent P m' a) [] 0 0 H with
          | none => rw [hq] at h; cases h
          | some q =>
            obtain ⟨v1, H1⟩ := q
            rw [hq] at h
            obtain ⟨T1, locs1, X1, r1, N1, hk1, hn1, hL1, st⟩ := call_go hG hw hm hd hc (fun mR => ih m' mR _ _ _ _ _ _ _ _ hq) X hx hZ hby hml hown hL r N hk hn
            exact (ih m hm _ _ _ _ _ _ _ _ h p e s mid args below meth c T1 locs1 X1 hx hZ hby hml hown hnm hret hL1 r1 N1 hk1 hn1).back st
        | none =>
          rw [hc] at h
          simp only at h
          cases hs : stp P m ins len aux pc L S k n H with
          | none => rw [hs] at h; cases h
          | some q =>
            rw [hs] at h
            obtain ⟨T1, locs1, X1, r1, N1, hk1, hn1, hL1, st⟩ := stp_go hG hw hm hd hs X hx hZ hby hml hown hnm hL r N hk hn
            exact (ih m hm _ _ _ _ _ _ _ _ h p e s mid args below meth c T1 locs1 X1 hx hZ hby hml hown hnm hret hL1 r1 N1 hk1 hn1).back st
theorem law_met (hG : Good P tb C fn F nsl nm bt R top) (hw : ∀ d ∈ tb, d.before a0 Z = true) {as : List Value} {H : AH} {h : Heap} {Q : Option Value → AH → Prop} (ws : List Jvm.Cond) (ht : top ∈ R) (hl : (Sym.laidSlots as).length ≤ ml P top) (r : RelH C fn F Z n0 h H) (hC : Cl P top as H Q) :
    MetFree l (nm top) (head1 (Jvm.Cond.code (nm top) (bt top) (ml P top) (rt P top) :: ws) (rm P top)) (fun a U => a = as.toArray ∧ Z.Warmed39 U.vm ∧ U.heap = h) (fun _ _ _ _ _ => True)
      (fun _ U o U' => ∃ v' L, o = .returned v' ∧ (Fr n0 L ∧ ∃ H', Q v' H') ∧ FrameEnd U o U' L (rm P top).cells (rm P top).slots) := by
  obtain ⟨f, v, H', h1, h2⟩ := hC
  have hM := met_of (l := l) (h := h) ws (hG.2.2.2.2.1 top ht).1 hl r (sound hG hw f top ht _ _ _ _ _ _ _ _ h1)
  intro p e ha hc hk s m args below hf happ hP hK
  obtain ⟨n, o, q1, q2, q3, v', L, q4, ⟨q5, q6, q7⟩, q8⟩ := hM p e ha hc hk s m args below hf happ hP hK
  exact ⟨n, o, q1, q2, q3, v', L, q4, ⟨q6, H', by rw [q5]; exact h2⟩, q8⟩
end Sound
end Jvm.JX
namespace Jvm.JX
open Sem ClassFile Op Lib Jvm.Stand Jvm.Free Jvm.LawKit Jvm.RoadKit
theorem fa0 {α : Type} {p : α → Prop} : ∀ x ∈ ([] : List α), p x := fun _ q => nomatch q
theorem faS {α : Type} {p : α → Prop} {y : α} {L : List α} (q : p y) (r : ∀ x ∈ L, p x) : ∀ x ∈ y :: L, p x := fun x z => (List.mem_cons.mp z).elim (fun u => u ▸ q) (r x)
def rowChk (FL ML : List (Nat × Nat × Nat)) (KI KJ : List (Nat × Nat × Int)) (AT : List FieldType) (WF : List Nat) (nsl nw : Nat) (own : Nat) (ini : Bool) (ins : Instr) (aux : Int) : Bool :=
  match ins with
  | .getfield i => FL.contains (own, i, aux.toNat)
  | .putfield i => FL.contains (own, i, aux.toNat) && (WF.contains aux.toNat || ini)
  | .new i => decide (aux.toNat = nsl) && decide (own = 1) && decide (i = nw)
  | .newarray t => decide (newarray.typeOf t ∈ AT)
  | .ldc i => KI.contains (own, i, aux)
  | .ldc2_w i => KJ.contains (own, i, aux)
  | .invokevirtual i => ML.contains (own, i, aux.toNat)
  | .invokestatic i => ML.contains (own, i, aux.toNat)
  | .invokespecial i => if aux = -1 then decide (own = 0) && decide (i = 1) else ML.contains (own, i, aux.toNat)
  | _ => true
def rowOne (FL ML : List (Nat × Nat × Nat)) (KI KJ : List (Nat × Nat × Int)) (AT : List FieldType) (WF : List Nat) (nsl nw : Nat) (bt : Nat → ByteArray) (own : Nat → Nat) (ini : Nat → Bool) (m : Nat) (r : Row) : Bool :=
  decide (decode (bt m) r.1 = .ok (r.2.1, r.2.2.1)) && decide (r.2.2.1 = ilen2 r.2.1 r.2.2.1) && rowChk FL ML KI KJ AT WF nsl nw (own m) (ini m) r.2.1 r.2.2.2
theorem lookup_mem {L : List Row} {pc : Nat} {d : Instr × Nat × Int} (h : L.lookup pc = some d) : (pc, d) ∈ L := by
  induction L with
  | nil => cases h
  | cons x L ih =>
    obtain ⟨k, v⟩ := x
    rw [List.lookup_cons] at h
    by_cases e : pc = k
    · subst e; simp at h; subst h; exact List.mem_cons_self ..
    · have : (pc == k) = false := by simpa using e
      rw [this] at h; exact List.mem_cons_of_mem _ (ih h)
theorem row_ok {P : Prog} {tb : List Jvm.Cond} {C : String} {fn : Nat → String × String} {F : List Nat} {nsl nw : Nat} {nm : Nat → MethodName} {R : List Nat} {cn : Nat → String} {own : Nat → Nat} {ini : Nat → Bool}
    {FL ML : List (Nat × Nat × Nat)} {KI KJ : List (Nat × Nat × Int)} {AT : List FieldType} {WF : List Nat} {m : Nat} {ins : Instr} {aux : Int}
    (hown : (nm m).cls = cn (own m)) (hini : ini m = true → (nm m).cls = C ∧ (nm m).name = "<init>")
    (hFL : ∀ t ∈ FL, t.2.2 ∈ F ∧ Jvm.Cond.fieldLink (cn t.1) t.2.1 C (fn t.2.2).1 (fn t.2.2).2 ∈ tb) (hWF : ∀ k ∈ WF, Jvm.Cond.lays C C (fn k).1 (fn k).2 ∈ tb)
    (hML : ∀ t ∈ ML, t.2.2 ∈ R ∧ Jvm.Cond.methodLink (cn t.1) t.2.1 (nm t.2.2) ∈ tb) (hKI : ∀ t ∈ KI, Jvm.Cond.constant (cn t.1) t.2.1 (Int32.ofInt t.2.2) ∈ tb) (hKJ : ∀ t ∈ KJ, Jvm.Cond.constantLong (cn t.1) t.2.1 (Int64.ofInt t.2.2) ∈ tb)
    (hAT : ∀ t ∈ AT, Jvm.Cond.arrayClass t ∈ tb) (hN : Jvm.Cond.classLink (cn 1) nw C ∈ tb)
    (hO : Jvm.Cond.methodLink (cn 0) 1 Lib.objectInit ∈ tb ∧ Jvm.Cond.instanceMethod Lib.objectInit ∈ tb ∧ Jvm.Cond.code Lib.objectInit ⟨#[0xb1]⟩ 1 none ∈ tb)
    (h : rowChk FL ML KI KJ AT WF nsl nw (own m) (ini m) ins aux = true) : RowOk P tb C fn F nsl nm R m ins aux := by
  cases ins <;> first | trivial | skip
  case getfield i => have q := hFL _ (List.contains_iff_mem.mp h); exact ⟨q.1, by rw [hown]; exact q.2⟩
  case putfield i =>
    simp only [rowChk, Bool.and_eq_true, Bool.or_eq_true] at h
    have q := hFL _ (List.contains_iff_mem.mp h.1)
    exact ⟨q.1, by rw [hown]; exact q.2, h.2.imp (fun u => hWF _ (List.contains_iff_mem.mp u)) hini⟩
  case new i =>
    simp only [rowChk, Bool.and_eq_true, decide_eq_true_eq] at h
    obtain ⟨⟨h1, h2⟩, h3⟩ := h
    exact ⟨h1, by rw [hown, h2, h3]; exact hN⟩
  case newarray t => exact hAT _ (of_decide_eq_true h)
  case ldc i => have q := hKI _ (List.contains_iff_mem.mp h); show _ ∈ tb; rw [hown]; exact q
  case ldc2_w i => have q := hKJ _ (List.contains_iff_mem.mp h); show _ ∈ tb; rw [hown]; exact q
  case invokevirtual i => have q := hML _ (List.contains_iff_mem.mp h); exact ⟨q.1, by rw [hown]; exact q.2⟩
  case invokestatic i => have q := hML _ (List.contains_iff_mem.mp h); exact ⟨q.1, by rw [hown]; exact q.2⟩
  case invokespecial i =>
    simp only [rowChk] at h
    refine ⟨fun e => ?_, fun e => ?_⟩
    · rw [if_pos e] at h
      simp only [Bool.and_eq_true, decide_eq_true_eq] at h
      rw [hown, h.1, h.2]; exact hO
    · rw [if_neg (by omega)] at h
      have q := hML _ (List.contains_iff_mem.mp h)
      exact ⟨q.1, by rw [hown]; exact q.2⟩
theorem rel_H1 {C : String} {fn : Nat → String × String} {F : List Nat} {s : State} {a : Addr} {cl : Cell} (hf : Fit s) (A : Arr s s.heap a cl .int) (hl : cl.slots.size < 2 ^ 31) :
    ∃ f : Nat → Int32, RelH C fn F s s.heap.size s.heap (H1 s.heap.size a cl.slots.size f) := by
  refine ⟨fun i => match cl.slots[i]? with | some (.int x) => x | _ => 0, rfl, Nat.le_refl _, fun b => ?_⟩
  simp only [H1]
  by_cases e : b = a
  · subst e
    simp only [if_true]
    refine ⟨fun q => (by cases q), hl, cl, A, rfl, fun i hi => ?_⟩
    have hi : i < cl.slots.size := hi
    have hj := idx_in hi hl
    obtain ⟨v, q1, q2⟩ := elem_fit hf A hj
    have e2 : (i.toInt32).toNatClampNeg = i := by
      have := len_toInt (n := i) (by omega)
      simp only [Int32.toNatClampNeg, this]; omega
    rw [e2] at q1
    obtain ⟨x, rfl⟩ := fit_I q2 (Or.inl rfl)
    show _ = some (Value.int (match cl.slots[i]? with | some (.int x) => x | _ => 0))
    rw [q1]
  · simp only [e, if_false]; exact ⟨fun q => (by cases q), trivial⟩
end Jvm.JX

namespace Jvm.JX.Pj
open Jvm Jvm.ClassFile Sem Op Lib Jvm.JX
def r1 : List Row := [(0, .aload_n 0, 1, 0), (1, .invokespecial 1, 3, (-1)), (4, .aload_n 0, 1, 0), (5, .bipush 16, 2, 0), (7, .newarray .boolean, 2, 0), (9, .putfield 7, 3, 20), (12, .aload_n 0, 1, 0), (13, .sipush 384, 3, 0), (16, .newarray .boolean, 2, 0), (18, .putfield 13, 3, 23), (21, .aload_n 0, 1, 0), (22, .sipush 384, 3, 0), (25, .newarray .int, 2, 0), (27, .putfield 16, 3, 24), (30, .aload_n 0, 1, 0), (31, .sipush 384, 3, 0), (34, .newarray .int, 2, 0), (36, .putfield 20, 3, 25), (39, .aload_n 0, 1, 0), (40, .sipush 384, 3, 0), (43, .newarray .boolean, 2, 0), (45, .putfield 23, 3, 26), (48, .aload_n 0, 1, 0), (49, .sipush 384, 3, 0), (52, .newarray .boolean, 2, 0), (54, .putfield 26, 3, 27), (57, .aload_n 0, 1, 0), (58, .sipush 384, 3, 0), (61, .newarray .int, 2, 0), (63, .putfield 29, 3, 28), (66, .aload_n 0, 1, 0), (67, .sipush 384, 3, 0), (70, .newarray .int, 2, 0), (72, .putfield 32, 3, 29), (75, .aload_n 0, 1, 0), (76, .sipush 384, 3, 0), (79, .newarray .boolean, 2, 0), (81, .putfield 35, 3, 30), (84, .aload_n 0, 1, 0), (85, .sipush 384, 3, 0), (88, .newarray .int, 2, 0), (90, .putfield 38, 3, 31), (93, .aload_n 0, 1, 0), (94, .sipush 384, 3, 0), (97, .newarray .int, 2, 0), (99, .putfield 41, 3, 32), (102, .aload_n 0, 1, 0), (103, .iconst 4, 1, 0), (104, .newarray .int, 2, 0), (106, .putfield 44, 3, 33), (109, .aload_n 0, 1, 0), (110, .iconst 4, 1, 0), (111, .newarray .long, 2, 0), (113, .putfield 47, 3, 34), (116, .aload_n 0, 1, 0), (117, .iconst 4, 1, 0), (118, .newarray .long, 2, 0), (120, .putfield 51, 3, 35), (123, .aload_n 0, 1, 0), (124, .iconst 4, 1, 0), (125, .newarray .long, 2, 0), (127, .putfield 54, 3, 36), (130, .aload_n 0, 1, 0), (131, .iconst 4, 1, 0), (132, .newarray .long, 2, 0), (134, .putfield 57, 3, 37), (137, .aload_n 0, 1, 0), (138, .aload_n 0, 1, 0), (139, .iload_n 1, 1, 0), (140, .bipush 8, 2, 0), (142, .sipush 128, 3, 0), (145, .invokevirtual 60, 3, 11), (148, .putfield 64, 3, 0), (151, .aload_n 0, 1, 0), (152, .aload_n 0, 1, 0), (153, .iload_n 2, 1, 0), (154, .iconst 2, 1, 0), (155, .iconst 3, 1, 0), (156, .invokevirtual 60, 3, 11), (159, .putfield 68, 3, 1), (162, .aload_n 0, 1, 0), (163, .aload_n 0, 1, 0), (164, .iload_n 3, 1, 0), (165, .iconst 1, 1, 0), (166, .iconst 5, 1, 0), (167, .invokevirtual 60, 3, 11), (170, .putfield 71, 3, 2), (173, .aload_n 0, 1, 0), (174, .aload_n 0, 1, 0), (175, .iload 4, 2, 0), (177, .iconst 0, 1, 0), (178, .ldc 74, 2, 65535), (180, .invokevirtual 60, 3, 11), (183, .putfield 75, 3, 3), (186, .aload_n 0, 1, 0), (187, .iconst (-1), 1, 0), (188, .putfield 78, 3, 4), (191, .aload_n 0, 1, 0), (192, .iconst (-1), 1, 0), (193, .putfield 81, 3, 7), (196, .aload_n 0, 1, 0), (197, .iconst (-1), 1, 0), (198, .putfield 84, 3, 8), (201, .iconst 0, 1, 0), (202, .istore 5, 2, 0), (204, .iload 5, 2, 0), (206, .iconst 4, 1, 0), (207, .if_icmp .ge 17, 3, 0), (210, .aload_n 0, 1, 0), (211, .getfield 44, 3, 33), (214, .iload 5, 2, 0), (216, .iconst (-1), 1, 0), (217, .iastore, 1, 0), (218, .iinc 5 1, 3, 0), (221, .goto (-17), 3, 0), (224, .return_, 1, 0)]
def r2 : List Row := [(0, .iload_n 1, 1, 0), (1, .iconst 1, 1, 0), (2, .if_icmp .ne 12, 3, 0), (5, .aload_n 0, 1, 0), (6, .iload_n 2, 1, 0), (7, .iload_n 3, 1, 0), (8, .iload 4, 2, 0), (10, .invokevirtual 87, 3, 3), (13, .ireturn, 1, 0), (14, .iload_n 1, 1, 0), (15, .iconst 2, 1, 0), (16, .if_icmp .ne 25, 3, 0), (19, .iload_n 2, 1, 0), (20, .iconst (-1), 1, 0), (21, .if_icmp .lt 11, 3, 0), (24, .iload_n 2, 1, 0), (25, .aload_n 0, 1, 0), (26, .getfield 64, 3, 0), (29, .if_icmp .lt 5, 3, 0), (32, .iconst 0, 1, 0), (33, .ireturn, 1, 0), (34, .aload_n 0, 1, 0), (35, .iload_n 2, 1, 0), (36, .putfield 81, 3, 7), (39, .iconst 1, 1, 0), (40, .ireturn, 1, 0), (41, .iload_n 1, 1, 0), (42, .iconst 3, 1, 0), (43, .if_icmp .ne 25, 3, 0), (46, .iload_n 2, 1, 0), (47, .iconst (-1), 1, 0), (48, .if_icmp .lt 11, 3, 0), (51, .iload_n 2, 1, 0), (52, .aload_n 0, 1, 0), (53, .getfield 64, 3, 0), (56, .if_icmp .lt 5, 3, 0), (59, .iconst 0, 1, 0), (60, .ireturn, 1, 0), (61, .aload_n 0, 1, 0), (62, .iload_n 2, 1, 0), (63, .putfield 84, 3, 8), (66, .iconst 1, 1, 0), (67, .ireturn, 1, 0), (68, .iload_n 1, 1, 0), (69, .iconst 4, 1, 0), (70, .if_icmp .ne 22, 3, 0), (73, .iload_n 2, 1, 0), (74, .ifCond .lt 9, 3, 0), (77, .iload_n 2, 1, 0), (78, .bipush 16, 2, 0), (80, .if_icmp .le 5, 3, 0), (83, .iconst 0, 1, 0), (84, .ireturn, 1, 0), (85, .aload_n 0, 1, 0), (86, .iload_n 2, 1, 0), (87, .putfield 91, 3, 9), (90, .iconst 1, 1, 0), (91, .ireturn, 1, 0), (92, .iload_n 1, 1, 0), (93, .iconst 5, 1, 0), (94, .if_icmp .ne 10, 3, 0), (97, .aload_n 0, 1, 0), (98, .iload_n 2, 1, 0), (99, .iload_n 3, 1, 0), (100, .invokevirtual 94, 3, 4), (103, .ireturn, 1, 0), (104, .iconst 0, 1, 0), (105, .ireturn, 1, 0)]
def r3 : List Row := [(0, .iload_n 1, 1, 0), (1, .iconst (-1), 1, 0), (2, .if_icmp .ne 10, 3, 0), (5, .aload_n 0, 1, 0), (6, .iconst (-1), 1, 0), (7, .putfield 78, 3, 4), (10, .iconst 1, 1, 0), (11, .ireturn, 1, 0), (12, .iload_n 1, 1, 0), (13, .ifCond .lt 11, 3, 0), (16, .iload_n 1, 1, 0), (17, .aload_n 0, 1, 0), (18, .getfield 64, 3, 0), (21, .if_icmp .lt 5, 3, 0), (24, .iconst 0, 1, 0), (25, .ireturn, 1, 0), (26, .iload_n 2, 1, 0), (27, .iconst 1, 1, 0), (28, .if_icmp .lt 9, 3, 0), (31, .iload_n 2, 1, 0), (32, .bipush 64, 2, 0), (34, .if_icmp .le 5, 3, 0), (37, .iconst 0, 1, 0), (38, .ireturn, 1, 0), (39, .iload_n 3, 1, 0), (40, .ifCond .lt 9, 3, 0), (43, .iload_n 3, 1, 0), (44, .bipush 64, 2, 0), (46, .if_icmp .le 5, 3, 0), (49, .iconst 0, 1, 0), (50, .ireturn, 1, 0), (51, .aload_n 0, 1, 0), (52, .iload_n 1, 1, 0), (53, .putfield 78, 3, 4), (56, .aload_n 0, 1, 0), (57, .iload_n 2, 1, 0), (58, .putfield 98, 3, 5), (61, .aload_n 0, 1, 0), (62, .iload_n 3, 1, 0), (63, .putfield 101, 3, 6), (66, .iconst 1, 1, 0), (67, .ireturn, 1, 0)]
def r4 : List Row := [(0, .iload_n 1, 1, 0), (1, .ifCond .lt 8, 3, 0), (4, .iload_n 1, 1, 0), (5, .iconst 3, 1, 0), (6, .if_icmp .le 5, 3, 0), (9, .iconst 0, 1, 0), (10, .ireturn, 1, 0), (11, .iload_n 2, 1, 0), (12, .iconst (-1), 1, 0), (13, .if_icmp .lt 11, 3, 0), (16, .iload_n 2, 1, 0), (17, .aload_n 0, 1, 0), (18, .getfield 64, 3, 0), (21, .if_icmp .lt 5, 3, 0), (24, .iconst 0, 1, 0), (25, .ireturn, 1, 0), (26, .aload_n 0, 1, 0), (27, .getfield 44, 3, 33), (30, .iload_n 1, 1, 0), (31, .iload_n 2, 1, 0), (32, .iastore, 1, 0), (33, .aload_n 0, 1, 0), (34, .getfield 47, 3, 34), (37, .iload_n 1, 1, 0), (38, .lconst 0, 1, 0), (39, .lastore, 1, 0), (40, .aload_n 0, 1, 0), (41, .getfield 51, 3, 35), (44, .iload_n 1, 1, 0), (45, .lconst 0, 1, 0), (46, .lastore, 1, 0), (47, .aload_n 0, 1, 0), (48, .getfield 54, 3, 36), (51, .iload_n 1, 1, 0), (52, .lconst 0, 1, 0), (53, .lastore, 1, 0), (54, .aload_n 0, 1, 0), (55, .getfield 57, 3, 37), (58, .iload_n 1, 1, 0), (59, .lconst 0, 1, 0), (60, .lastore, 1, 0), (61, .iconst 1, 1, 0), (62, .ireturn, 1, 0)]
def r5 : List Row := [(0, .iload_n 1, 1, 0), (1, .ifCond .lt 11, 3, 0), (4, .iload_n 1, 1, 0), (5, .aload_n 0, 1, 0), (6, .getfield 68, 3, 1), (9, .if_icmp .lt 5, 3, 0), (12, .iconst 0, 1, 0), (13, .ireturn, 1, 0), (14, .iload_n 2, 1, 0), (15, .ifCond .lt 11, 3, 0), (18, .iload_n 2, 1, 0), (19, .aload_n 0, 1, 0), (20, .getfield 64, 3, 0), (23, .if_icmp .lt 5, 3, 0), (26, .iconst 0, 1, 0), (27, .ireturn, 1, 0), (28, .iload_n 3, 1, 0), (29, .ifCond .lt 11, 3, 0), (32, .iload_n 3, 1, 0), (33, .aload_n 0, 1, 0), (34, .getfield 71, 3, 2), (37, .if_icmp .le 5, 3, 0), (40, .iconst 0, 1, 0), (41, .ireturn, 1, 0), (42, .iload_n 1, 1, 0), (43, .sipush 128, 3, 0), (46, .imul, 1, 0), (47, .iload_n 2, 1, 0), (48, .iadd, 1, 0), (49, .istore 5, 2, 0), (51, .aload_n 0, 1, 0), (52, .getfield 13, 3, 23), (55, .iload 5, 2, 0), (57, .baload, 1, 0), (58, .ifCond .eq 5, 3, 0), (61, .iconst 0, 1, 0), (62, .ireturn, 1, 0), (63, .aload_n 0, 1, 0), (64, .iload 5, 2, 0), (66, .iload_n 3, 1, 0), (67, .iload 4, 2, 0), (69, .invokevirtual 104, 3, 6), (72, .iconst 1, 1, 0), (73, .ireturn, 1, 0)]
def r6 : List Row := [(0, .aload_n 0, 1, 0), (1, .getfield 13, 3, 23), (4, .iload_n 1, 1, 0), (5, .iconst 1, 1, 0), (6, .bastore, 1, 0), (7, .aload_n 0, 1, 0), (8, .getfield 16, 3, 24), (11, .iload_n 1, 1, 0), (12, .iload_n 2, 1, 0), (13, .iastore, 1, 0), (14, .aload_n 0, 1, 0), (15, .getfield 20, 3, 25), (18, .iload_n 1, 1, 0), (19, .aload_n 0, 1, 0), (20, .getfield 108, 3, 13), (23, .l2i, 1, 0), (24, .iastore, 1, 0), (25, .aload_n 0, 1, 0), (26, .getfield 23, 3, 26), (29, .iload_n 1, 1, 0), (30, .iload_n 3, 1, 0), (31, .bastore, 1, 0), (32, .aload_n 0, 1, 0), (33, .dup, 1, 0), (34, .getfield 108, 3, 13), (37, .lconst 1, 1, 0), (38, .ladd, 1, 0), (39, .putfield 108, 3, 13), (42, .aload_n 0, 1, 0), (43, .dup, 1, 0), (44, .getfield 112, 3, 12), (47, .iconst 1, 1, 0), (48, .iadd, 1, 0), (49, .putfield 112, 3, 12), (52, .return_, 1, 0)]
def r7 : List Row := [(0, .aload_n 0, 1, 0), (1, .getfield 115, 3, 22), (4, .bipush 16, 2, 0), (6, .if_icmp .lt 5, 3, 0), (9, .iconst 0, 1, 0), (10, .ireturn, 1, 0), (11, .aload_n 0, 1, 0), (12, .getfield 118, 3, 21), (15, .aload_n 0, 1, 0), (16, .getfield 115, 3, 22), (19, .iadd, 1, 0), (20, .bipush 16, 2, 0), (22, .irem, 1, 0), (23, .istore_n 2, 1, 0), (24, .aload_n 0, 1, 0), (25, .getfield 7, 3, 20), (28, .iload_n 2, 1, 0), (29, .iload_n 1, 1, 0), (30, .bastore, 1, 0), (31, .aload_n 0, 1, 0), (32, .dup, 1, 0), (33, .getfield 115, 3, 22), (36, .iconst 1, 1, 0), (37, .iadd, 1, 0), (38, .putfield 115, 3, 22), (41, .iconst 1, 1, 0), (42, .ireturn, 1, 0)]
def r8 : List Row := [(0, .iload_n 1, 1, 0), (1, .iconst 1, 1, 0), (2, .if_icmp .lt 9, 3, 0), (5, .iload_n 1, 1, 0), (6, .bipush 16, 2, 0), (8, .if_icmp .le 5, 3, 0), (11, .iconst (-1), 1, 0), (12, .ireturn, 1, 0), (13, .iconst 0, 1, 0), (14, .istore_n 2, 1, 0), (15, .iload_n 2, 1, 0), (16, .iload_n 1, 1, 0), (17, .if_icmp .ge 13, 3, 0), (20, .aload_n 0, 1, 0), (21, .invokevirtual 121, 3, 9), (24, .iinc 2 1, 3, 0), (27, .goto (-12), 3, 0), (30, .aload_n 0, 1, 0), (31, .getfield 112, 3, 12), (34, .ireturn, 1, 0)]
def r9 : List Row := [(0, .aload_n 0, 1, 0), (1, .aload_n 0, 1, 0), (2, .invokevirtual 124, 3, 10), (5, .putfield 128, 3, 10), (8, .aload_n 0, 1, 0), (9, .invokevirtual 132, 3, 17), (12, .aload_n 0, 1, 0), (13, .invokevirtual 135, 3, 21), (16, .aload_n 0, 1, 0), (17, .invokevirtual 138, 3, 23), (20, .aload_n 0, 1, 0), (21, .invokevirtual 141, 3, 27), (24, .aload_n 0, 1, 0), (25, .invokevirtual 144, 3, 28), (28, .aload_n 0, 1, 0), (29, .dup, 1, 0), (30, .getfield 147, 3, 11), (33, .lconst 1, 1, 0), (34, .ladd, 1, 0), (35, .putfield 147, 3, 11), (38, .return_, 1, 0)]
def r10 : List Row := [(0, .aload_n 0, 1, 0), (1, .getfield 78, 3, 4), (4, .ifCond .ge 5, 3, 0), (7, .iconst 0, 1, 0), (8, .ireturn, 1, 0), (9, .aload_n 0, 1, 0), (10, .getfield 98, 3, 5), (13, .aload_n 0, 1, 0), (14, .getfield 101, 3, 6), (17, .iadd, 1, 0), (18, .istore_n 1, 1, 0), (19, .iload_n 1, 1, 0), (20, .ifCond .gt 5, 3, 0), (23, .iconst 0, 1, 0), (24, .ireturn, 1, 0), (25, .aload_n 0, 1, 0), (26, .getfield 147, 3, 11), (29, .iload_n 1, 1, 0), (30, .i2l, 1, 0), (31, .lrem, 1, 0), (32, .aload_n 0, 1, 0), (33, .getfield 98, 3, 5), (36, .i2l, 1, 0), (37, .lcmp, 1, 0), (38, .ifCond .lt 7, 3, 0), (41, .iconst 1, 1, 0), (42, .goto 4, 3, 0), (45, .iconst 0, 1, 0), (46, .ireturn, 1, 0)]
def r11 : List Row := [(0, .iload_n 1, 1, 0), (1, .iload_n 2, 1, 0), (2, .if_icmp .ge 5, 3, 0), (5, .iload_n 2, 1, 0), (6, .ireturn, 1, 0), (7, .iload_n 1, 1, 0), (8, .iload_n 3, 1, 0), (9, .if_icmp .le 5, 3, 0), (12, .iload_n 3, 1, 0), (13, .ireturn, 1, 0), (14, .iload_n 1, 1, 0), (15, .ireturn, 1, 0)]
def r12 : List Row := [(0, .iload_n 1, 1, 0), (1, .aload_n 0, 1, 0), (2, .getfield 64, 3, 0), (5, .irem, 1, 0), (6, .istore_n 2, 1, 0), (7, .iload_n 2, 1, 0), (8, .ifCond .ge 10, 3, 0), (11, .iload_n 2, 1, 0), (12, .aload_n 0, 1, 0), (13, .getfield 64, 3, 0), (16, .iadd, 1, 0), (17, .istore_n 2, 1, 0), (18, .iload_n 2, 1, 0), (19, .ireturn, 1, 0)]
def r13 : List Row := [(0, .aload_n 0, 1, 0), (1, .aload_n 0, 1, 0), (2, .getfield 75, 3, 3), (5, .ldc 150, 2, 1103515245), (7, .imul, 1, 0), (8, .sipush 12345, 3, 0), (11, .iadd, 1, 0), (12, .putfield 75, 3, 3), (15, .aload_n 0, 1, 0), (16, .getfield 75, 3, 3), (19, .bipush 16, 2, 0), (21, .iushr, 1, 0), (22, .sipush 32767, 3, 0), (25, .iand, 1, 0), (26, .ireturn, 1, 0)]
def r14 : List Row := [(0, .aload_n 0, 1, 0), (1, .getfield 13, 3, 23), (4, .iload_n 1, 1, 0), (5, .sipush 128, 3, 0), (8, .imul, 1, 0), (9, .iload_n 2, 1, 0), (10, .iadd, 1, 0), (11, .baload, 1, 0), (12, .ifCond .eq 5, 3, 0), (15, .iconst 1, 1, 0), (16, .ireturn, 1, 0), (17, .aload_n 0, 1, 0), (18, .getfield 128, 3, 10), (21, .ifCond .eq 15, 3, 0), (24, .iload_n 2, 1, 0), (25, .aload_n 0, 1, 0), (26, .getfield 78, 3, 4), (29, .if_icmp .ne 7, 3, 0), (32, .iconst 1, 1, 0), (33, .goto 4, 3, 0), (36, .iconst 0, 1, 0), (37, .ireturn, 1, 0)]
def r15 : List Row := [(0, .iconst 0, 1, 0), (1, .istore_n 3, 1, 0), (2, .iconst 1, 1, 0), (3, .istore 4, 2, 0), (5, .iload 4, 2, 0), (7, .aload_n 0, 1, 0), (8, .getfield 71, 3, 2), (11, .if_icmp .gt 35, 3, 0), (14, .aload_n 0, 1, 0), (15, .iload_n 2, 1, 0), (16, .iload 4, 2, 0), (18, .iadd, 1, 0), (19, .invokevirtual 151, 3, 12), (22, .istore 5, 2, 0), (24, .aload_n 0, 1, 0), (25, .iload_n 1, 1, 0), (26, .iload 5, 2, 0), (28, .invokevirtual 155, 3, 14), (31, .ifCond .eq 6, 3, 0), (34, .goto 12, 3, 0), (37, .iload 4, 2, 0), (39, .istore_n 3, 1, 0), (40, .iinc 4 1, 3, 0), (43, .goto (-38), 3, 0), (46, .iload_n 3, 1, 0), (47, .ireturn, 1, 0)]
def r16 : List Row := [(0, .iconst 1, 1, 0), (1, .istore_n 3, 1, 0), (2, .iload_n 3, 1, 0), (3, .aload_n 0, 1, 0), (4, .getfield 71, 3, 2), (7, .if_icmp .gt 55, 3, 0), (10, .aload_n 0, 1, 0), (11, .iload_n 2, 1, 0), (12, .iload_n 3, 1, 0), (13, .isub, 1, 0), (14, .invokevirtual 151, 3, 12), (17, .istore 4, 2, 0), (19, .iload_n 1, 1, 0), (20, .sipush 128, 3, 0), (23, .imul, 1, 0), (24, .iload 4, 2, 0), (26, .iadd, 1, 0), (27, .istore 5, 2, 0), (29, .aload_n 0, 1, 0), (30, .getfield 13, 3, 23), (33, .iload 5, 2, 0), (35, .baload, 1, 0), (36, .ifCond .eq 20, 3, 0), (39, .aload_n 0, 1, 0), (40, .getfield 16, 3, 24), (43, .iload 5, 2, 0), (45, .iaload, 1, 0), (46, .iload_n 3, 1, 0), (47, .if_icmp .ge 7, 3, 0), (50, .iconst 1, 1, 0), (51, .goto 4, 3, 0), (54, .iconst 0, 1, 0), (55, .ireturn, 1, 0), (56, .iinc 3 1, 3, 0), (59, .goto (-57), 3, 0), (62, .iconst 1, 1, 0), (63, .ireturn, 1, 0)]
def r17 : List Row := [(0, .iconst 0, 1, 0), (1, .istore_n 1, 1, 0), (2, .iload_n 1, 1, 0), (3, .sipush 384, 3, 0), (6, .if_icmp .ge 16, 3, 0), (9, .aload_n 0, 1, 0), (10, .getfield 38, 3, 31), (13, .iload_n 1, 1, 0), (14, .iconst (-1), 1, 0), (15, .iastore, 1, 0), (16, .iinc 1 1, 3, 0), (19, .goto (-17), 3, 0), (22, .iconst 0, 1, 0), (23, .istore_n 1, 1, 0), (24, .iload_n 1, 1, 0), (25, .aload_n 0, 1, 0), (26, .getfield 68, 3, 1), (29, .if_icmp .ge 46, 3, 0), (32, .iconst 0, 1, 0), (33, .istore_n 2, 1, 0), (34, .iload_n 2, 1, 0), (35, .aload_n 0, 1, 0), (36, .getfield 64, 3, 0), (39, .if_icmp .ge 30, 3, 0), (42, .aload_n 0, 1, 0), (43, .getfield 13, 3, 23), (46, .iload_n 1, 1, 0), (47, .sipush 128, 3, 0), (50, .imul, 1, 0), (51, .iload_n 2, 1, 0), (52, .iadd, 1, 0), (53, .baload, 1, 0), (54, .ifCond .eq 9, 3, 0), (57, .aload_n 0, 1, 0), (58, .iload_n 1, 1, 0), (59, .iload_n 2, 1, 0), (60, .invokevirtual 158, 3, 18), (63, .iinc 2 1, 3, 0), (66, .goto (-32), 3, 0), (69, .iinc 1 1, 3, 0), (72, .goto (-48), 3, 0), (75, .iconst 0, 1, 0), (76, .istore_n 1, 1, 0), (77, .iload_n 1, 1, 0), (78, .aload_n 0, 1, 0), (79, .getfield 68, 3, 1), (82, .if_icmp .ge 31, 3, 0), (85, .iconst 0, 1, 0), (86, .istore_n 2, 1, 0), (87, .iload_n 2, 1, 0), (88, .aload_n 0, 1, 0), (89, .getfield 64, 3, 0), (92, .if_icmp .ge 15, 3, 0), (95, .aload_n 0, 1, 0), (96, .iload_n 1, 1, 0), (97, .iload_n 2, 1, 0), (98, .invokevirtual 162, 3, 20), (101, .iinc 2 1, 3, 0), (104, .goto (-17), 3, 0), (107, .iinc 1 1, 3, 0), (110, .goto (-33), 3, 0), (113, .return_, 1, 0)]
def r18 : List Row := [(0, .iload_n 1, 1, 0), (1, .sipush 128, 3, 0), (4, .imul, 1, 0), (5, .iload_n 2, 1, 0), (6, .iadd, 1, 0), (7, .istore_n 3, 1, 0), (8, .aload_n 0, 1, 0), (9, .getfield 23, 3, 26), (12, .iload_n 3, 1, 0), (13, .baload, 1, 0), (14, .ifCond .eq 45, 3, 0), (17, .iload_n 1, 1, 0), (18, .ifCond .le 40, 3, 0), (21, .aload_n 0, 1, 0), (22, .getfield 13, 3, 23), (25, .iload_n 1, 1, 0), (26, .iconst 1, 1, 0), (27, .isub, 1, 0), (28, .sipush 128, 3, 0), (31, .imul, 1, 0), (32, .iload_n 2, 1, 0), (33, .iadd, 1, 0), (34, .baload, 1, 0), (35, .ifCond .ne 23, 3, 0), (38, .aload_n 0, 1, 0), (39, .iload_n 1, 1, 0), (40, .iconst 1, 1, 0), (41, .isub, 1, 0), (42, .iload_n 2, 1, 0), (43, .invokevirtual 165, 3, 16), (46, .ifCond .eq 12, 3, 0), (49, .aload_n 0, 1, 0), (50, .getfield 38, 3, 31), (53, .iload_n 3, 1, 0), (54, .iload_n 1, 1, 0), (55, .iconst 1, 1, 0), (56, .isub, 1, 0), (57, .iastore, 1, 0), (58, .return_, 1, 0), (59, .aload_n 0, 1, 0), (60, .iload_n 1, 1, 0), (61, .iload_n 2, 1, 0), (62, .invokevirtual 168, 3, 15), (65, .istore 4, 2, 0), (67, .aload_n 0, 1, 0), (68, .getfield 16, 3, 24), (71, .iload_n 3, 1, 0), (72, .iaload, 1, 0), (73, .iconst 1, 1, 0), (74, .iadd, 1, 0), (75, .istore 5, 2, 0), (77, .iload 5, 2, 0), (79, .aload_n 0, 1, 0), (80, .getfield 71, 3, 2), (83, .if_icmp .le 9, 3, 0), (86, .aload_n 0, 1, 0), (87, .getfield 71, 3, 2), (90, .istore 5, 2, 0), (92, .iload 4, 2, 0), (94, .iload 5, 2, 0), (96, .if_icmp .lt 4, 3, 0), (99, .return_, 1, 0), (100, .iconst (-1), 1, 0), (101, .istore 6, 2, 0), (103, .iconst (-1), 1, 0), (104, .istore 7, 2, 0), (106, .iload_n 1, 1, 0), (107, .ifCond .le 29, 3, 0), (110, .aload_n 0, 1, 0), (111, .iload_n 1, 1, 0), (112, .iconst 1, 1, 0), (113, .isub, 1, 0), (114, .iload_n 2, 1, 0), (115, .iload 4, 2, 0), (117, .invokevirtual 172, 3, 19), (120, .istore 8, 2, 0), (122, .iload 8, 2, 0), (124, .ifCond .lt 12, 3, 0), (127, .iload_n 1, 1, 0), (128, .iconst 1, 1, 0), (129, .isub, 1, 0), (130, .istore 6, 2, 0), (132, .iload 8, 2, 0), (134, .istore 7, 2, 0), (136, .iload_n 1, 1, 0), (137, .iconst 1, 1, 0), (138, .iadd, 1, 0), (139, .aload_n 0, 1, 0), (140, .getfield 68, 3, 1), (143, .if_icmp .ge 32, 3, 0), (146, .aload_n 0, 1, 0), (147, .iload_n 1, 1, 0), (148, .iconst 1, 1, 0), (149, .iadd, 1, 0), (150, .iload_n 2, 1, 0), (151, .iload 4, 2, 0), (153, .invokevirtual 172, 3, 19), (156, .istore 8, 2, 0), (158, .iload 8, 2, 0), (160, .ifCond .lt 15, 3, 0), (163, .iload 8, 2, 0), (165, .iload 7, 2, 0), (167, .if_icmp .le 8, 3, 0), (170, .iload_n 1, 1, 0), (171, .iconst 1, 1, 0), (172, .iadd, 1, 0), (173, .istore 6, 2, 0), (175, .aload_n 0, 1, 0), (176, .getfield 38, 3, 31), (179, .iload_n 3, 1, 0), (180, .iload 6, 2, 0), (182, .iastore, 1, 0), (183, .return_, 1, 0)]
def r19 : List Row := [(0, .aload_n 0, 1, 0), (1, .getfield 13, 3, 23), (4, .iload_n 1, 1, 0), (5, .sipush 128, 3, 0), (8, .imul, 1, 0), (9, .iload_n 2, 1, 0), (10, .iadd, 1, 0), (11, .baload, 1, 0), (12, .ifCond .eq 5, 3, 0), (15, .iconst (-1), 1, 0), (16, .ireturn, 1, 0), (17, .aload_n 0, 1, 0), (18, .iload_n 1, 1, 0), (19, .iload_n 2, 1, 0), (20, .invokevirtual 168, 3, 15), (23, .istore 4, 2, 0), (25, .iload 4, 2, 0), (27, .iload_n 3, 1, 0), (28, .if_icmp .gt 5, 3, 0), (31, .iconst (-1), 1, 0), (32, .ireturn, 1, 0), (33, .aload_n 0, 1, 0), (34, .iload_n 1, 1, 0), (35, .iload_n 2, 1, 0), (36, .invokevirtual 165, 3, 16), (39, .ifCond .ne 5, 3, 0), (42, .iconst (-1), 1, 0), (43, .ireturn, 1, 0), (44, .iload 4, 2, 0), (46, .ireturn, 1, 0)]
def r20 : List Row := [(0, .iload_n 1, 1, 0), (1, .sipush 128, 3, 0), (4, .imul, 1, 0), (5, .iload_n 2, 1, 0), (6, .iadd, 1, 0), (7, .istore_n 3, 1, 0), (8, .aload_n 0, 1, 0), (9, .getfield 38, 3, 31), (12, .iload_n 3, 1, 0), (13, .iaload, 1, 0), (14, .istore 4, 2, 0), (16, .iload 4, 2, 0), (18, .ifCond .lt 12, 3, 0), (21, .iload 4, 2, 0), (23, .aload_n 0, 1, 0), (24, .getfield 68, 3, 1), (27, .if_icmp .lt 4, 3, 0), (30, .return_, 1, 0), (31, .aload_n 0, 1, 0), (32, .getfield 38, 3, 31), (35, .iload_n 3, 1, 0), (36, .iconst (-1), 1, 0), (37, .iastore, 1, 0), (38, .iload 4, 2, 0), (40, .sipush 128, 3, 0), (43, .imul, 1, 0), (44, .iload_n 2, 1, 0), (45, .iadd, 1, 0), (46, .istore 5, 2, 0), (48, .aload_n 0, 1, 0), (49, .getfield 13, 3, 23), (52, .iload 5, 2, 0), (54, .baload, 1, 0), (55, .ifCond .eq 4, 3, 0), (58, .return_, 1, 0), (59, .aload_n 0, 1, 0), (60, .getfield 13, 3, 23), (63, .iload 5, 2, 0), (65, .iconst 1, 1, 0), (66, .bastore, 1, 0), (67, .aload_n 0, 1, 0), (68, .getfield 16, 3, 24), (71, .iload 5, 2, 0), (73, .aload_n 0, 1, 0), (74, .getfield 16, 3, 24), (77, .iload_n 3, 1, 0), (78, .iaload, 1, 0), (79, .iastore, 1, 0), (80, .aload_n 0, 1, 0), (81, .getfield 20, 3, 25), (84, .iload 5, 2, 0), (86, .aload_n 0, 1, 0), (87, .getfield 20, 3, 25), (90, .iload_n 3, 1, 0), (91, .iaload, 1, 0), (92, .iastore, 1, 0), (93, .aload_n 0, 1, 0), (94, .getfield 23, 3, 26), (97, .iload 5, 2, 0), (99, .aload_n 0, 1, 0), (100, .getfield 23, 3, 26), (103, .iload_n 3, 1, 0), (104, .baload, 1, 0), (105, .bastore, 1, 0), (106, .aload_n 0, 1, 0), (107, .getfield 13, 3, 23), (110, .iload_n 3, 1, 0), (111, .iconst 0, 1, 0), (112, .bastore, 1, 0), (113, .aload_n 0, 1, 0), (114, .dup, 1, 0), (115, .getfield 175, 3, 17), (118, .lconst 1, 1, 0), (119, .ladd, 1, 0), (120, .putfield 175, 3, 17), (123, .return_, 1, 0)]
def r21 : List Row := [(0, .iconst 0, 1, 0), (1, .istore_n 1, 1, 0), (2, .iload_n 1, 1, 0), (3, .aload_n 0, 1, 0), (4, .getfield 68, 3, 1), (7, .if_icmp .ge 46, 3, 0), (10, .iconst 0, 1, 0), (11, .istore_n 2, 1, 0), (12, .iload_n 2, 1, 0), (13, .aload_n 0, 1, 0), (14, .getfield 64, 3, 0), (17, .if_icmp .ge 30, 3, 0), (20, .aload_n 0, 1, 0), (21, .getfield 13, 3, 23), (24, .iload_n 1, 1, 0), (25, .sipush 128, 3, 0), (28, .imul, 1, 0), (29, .iload_n 2, 1, 0), (30, .iadd, 1, 0), (31, .baload, 1, 0), (32, .ifCond .eq 9, 3, 0), (35, .aload_n 0, 1, 0), (36, .iload_n 1, 1, 0), (37, .iload_n 2, 1, 0), (38, .invokevirtual 178, 3, 22), (41, .iinc 2 1, 3, 0), (44, .goto (-32), 3, 0), (47, .iinc 1 1, 3, 0), (50, .goto (-48), 3, 0), (53, .return_, 1, 0)]
def r22 : List Row := [(0, .iload_n 1, 1, 0), (1, .sipush 128, 3, 0), (4, .imul, 1, 0), (5, .iload_n 2, 1, 0), (6, .iadd, 1, 0), (7, .istore_n 3, 1, 0), (8, .aload_n 0, 1, 0), (9, .getfield 16, 3, 24), (12, .iload_n 3, 1, 0), (13, .iaload, 1, 0), (14, .iconst 1, 1, 0), (15, .iadd, 1, 0), (16, .istore 4, 2, 0), (18, .iload 4, 2, 0), (20, .aload_n 0, 1, 0), (21, .getfield 71, 3, 2), (24, .if_icmp .le 9, 3, 0), (27, .aload_n 0, 1, 0), (28, .getfield 71, 3, 2), (31, .istore 4, 2, 0), (33, .aload_n 0, 1, 0), (34, .iload_n 1, 1, 0), (35, .iload_n 2, 1, 0), (36, .invokevirtual 168, 3, 15), (39, .istore 5, 2, 0), (41, .iload 4, 2, 0), (43, .iload 5, 2, 0), (45, .if_icmp .ge 8, 3, 0), (48, .iload 4, 2, 0), (50, .goto 5, 3, 0), (53, .iload 5, 2, 0), (55, .istore 6, 2, 0), (57, .aload_n 0, 1, 0), (58, .invokevirtual 181, 3, 13), (61, .istore 7, 2, 0), (63, .iload 6, 2, 0), (65, .istore 8, 2, 0), (67, .iload 7, 2, 0), (69, .bipush 15, 2, 0), (71, .iand, 1, 0), (72, .aload_n 0, 1, 0), (73, .getfield 91, 3, 9), (76, .if_icmp .ge 14, 3, 0), (79, .iload 6, 2, 0), (81, .ifCond .le 9, 3, 0), (84, .iload 6, 2, 0), (86, .iconst 1, 1, 0), (87, .isub, 1, 0), (88, .istore 8, 2, 0), (90, .aload_n 0, 1, 0), (91, .getfield 41, 3, 32), (94, .iload_n 3, 1, 0), (95, .iload 8, 2, 0), (97, .iastore, 1, 0), (98, .return_, 1, 0)]
def r23 : List Row := [(0, .iconst 0, 1, 0), (1, .istore_n 1, 1, 0), (2, .iload_n 1, 1, 0), (3, .sipush 384, 3, 0), (6, .if_icmp .ge 37, 3, 0), (9, .aload_n 0, 1, 0), (10, .getfield 26, 3, 27), (13, .iload_n 1, 1, 0), (14, .iconst 0, 1, 0), (15, .bastore, 1, 0), (16, .aload_n 0, 1, 0), (17, .getfield 29, 3, 28), (20, .iload_n 1, 1, 0), (21, .iconst 0, 1, 0), (22, .iastore, 1, 0), (23, .aload_n 0, 1, 0), (24, .getfield 32, 3, 29), (27, .iload_n 1, 1, 0), (28, .iconst 0, 1, 0), (29, .iastore, 1, 0), (30, .aload_n 0, 1, 0), (31, .getfield 35, 3, 30), (34, .iload_n 1, 1, 0), (35, .iconst 0, 1, 0), (36, .bastore, 1, 0), (37, .iinc 1 1, 3, 0), (40, .goto (-38), 3, 0), (43, .iconst 0, 1, 0), (44, .istore_n 1, 1, 0), (45, .iload_n 1, 1, 0), (46, .aload_n 0, 1, 0), (47, .getfield 68, 3, 1), (50, .if_icmp .ge 46, 3, 0), (53, .iconst 0, 1, 0), (54, .istore_n 2, 1, 0), (55, .iload_n 2, 1, 0), (56, .aload_n 0, 1, 0), (57, .getfield 64, 3, 0), (60, .if_icmp .ge 30, 3, 0), (63, .aload_n 0, 1, 0), (64, .getfield 13, 3, 23), (67, .iload_n 1, 1, 0), (68, .sipush 128, 3, 0), (71, .imul, 1, 0), (72, .iload_n 2, 1, 0), (73, .iadd, 1, 0), (74, .baload, 1, 0), (75, .ifCond .eq 9, 3, 0), (78, .aload_n 0, 1, 0), (79, .iload_n 1, 1, 0), (80, .iload_n 2, 1, 0), (81, .invokevirtual 185, 3, 24), (84, .iinc 2 1, 3, 0), (87, .goto (-32), 3, 0), (90, .iinc 1 1, 3, 0), (93, .goto (-48), 3, 0), (96, .iconst 0, 1, 0), (97, .istore_n 1, 1, 0), (98, .iload_n 1, 1, 0), (99, .sipush 384, 3, 0), (102, .if_icmp .ge 57, 3, 0), (105, .aload_n 0, 1, 0), (106, .getfield 13, 3, 23), (109, .iload_n 1, 1, 0), (110, .aload_n 0, 1, 0), (111, .getfield 26, 3, 27), (114, .iload_n 1, 1, 0), (115, .baload, 1, 0), (116, .bastore, 1, 0), (117, .aload_n 0, 1, 0), (118, .getfield 16, 3, 24), (121, .iload_n 1, 1, 0), (122, .aload_n 0, 1, 0), (123, .getfield 29, 3, 28), (126, .iload_n 1, 1, 0), (127, .iaload, 1, 0), (128, .iastore, 1, 0), (129, .aload_n 0, 1, 0), (130, .getfield 20, 3, 25), (133, .iload_n 1, 1, 0), (134, .aload_n 0, 1, 0), (135, .getfield 32, 3, 29), (138, .iload_n 1, 1, 0), (139, .iaload, 1, 0), (140, .iastore, 1, 0), (141, .aload_n 0, 1, 0), (142, .getfield 23, 3, 26), (145, .iload_n 1, 1, 0), (146, .aload_n 0, 1, 0), (147, .getfield 35, 3, 30), (150, .iload_n 1, 1, 0), (151, .baload, 1, 0), (152, .bastore, 1, 0), (153, .iinc 1 1, 3, 0), (156, .goto (-58), 3, 0), (159, .return_, 1, 0)]
def r24 : List Row := [(0, .iload_n 1, 1, 0), (1, .sipush 128, 3, 0), (4, .imul, 1, 0), (5, .iload_n 2, 1, 0), (6, .iadd, 1, 0), (7, .istore_n 3, 1, 0), (8, .aload_n 0, 1, 0), (9, .getfield 41, 3, 32), (12, .iload_n 3, 1, 0), (13, .iaload, 1, 0), (14, .istore 4, 2, 0), (16, .aload_n 0, 1, 0), (17, .dup, 1, 0), (18, .getfield 188, 3, 16), (21, .iload 4, 2, 0), (23, .i2l, 1, 0), (24, .ladd, 1, 0), (25, .putfield 188, 3, 16), (28, .aload_n 0, 1, 0), (29, .iload_n 1, 1, 0), (30, .iload_n 2, 1, 0), (31, .iload 4, 2, 0), (33, .invokevirtual 191, 3, 25), (36, .istore 5, 2, 0), (38, .iload 5, 2, 0), (40, .ifCond .le 31, 3, 0), (43, .aload_n 0, 1, 0), (44, .iload_n 2, 1, 0), (45, .iload 5, 2, 0), (47, .invokevirtual 194, 3, 26), (50, .aload_n 0, 1, 0), (51, .dup, 1, 0), (52, .getfield 197, 3, 14), (55, .lconst 1, 1, 0), (56, .ladd, 1, 0), (57, .putfield 197, 3, 14), (60, .aload_n 0, 1, 0), (61, .dup, 1, 0), (62, .getfield 112, 3, 12), (65, .iconst 1, 1, 0), (66, .isub, 1, 0), (67, .putfield 112, 3, 12), (70, .return_, 1, 0), (71, .aload_n 0, 1, 0), (72, .iload_n 2, 1, 0), (73, .iload 4, 2, 0), (75, .invokevirtual 194, 3, 26), (78, .aload_n 0, 1, 0), (79, .iload_n 2, 1, 0), (80, .iload 4, 2, 0), (82, .iadd, 1, 0), (83, .invokevirtual 151, 3, 12), (86, .istore 6, 2, 0), (88, .iload_n 1, 1, 0), (89, .sipush 128, 3, 0), (92, .imul, 1, 0), (93, .iload 6, 2, 0), (95, .iadd, 1, 0), (96, .istore 7, 2, 0), (98, .aload_n 0, 1, 0), (99, .getfield 26, 3, 27), (102, .iload 7, 2, 0), (104, .iconst 1, 1, 0), (105, .bastore, 1, 0), (106, .aload_n 0, 1, 0), (107, .getfield 29, 3, 28), (110, .iload 7, 2, 0), (112, .iload 4, 2, 0), (114, .iastore, 1, 0), (115, .aload_n 0, 1, 0), (116, .getfield 32, 3, 29), (119, .iload 7, 2, 0), (121, .aload_n 0, 1, 0), (122, .getfield 20, 3, 25), (125, .iload_n 3, 1, 0), (126, .iaload, 1, 0), (127, .iastore, 1, 0), (128, .aload_n 0, 1, 0), (129, .getfield 35, 3, 30), (132, .iload 7, 2, 0), (134, .aload_n 0, 1, 0), (135, .getfield 23, 3, 26), (138, .iload_n 3, 1, 0), (139, .baload, 1, 0), (140, .bastore, 1, 0), (141, .return_, 1, 0)]
def r25 : List Row := [(0, .iload_n 1, 1, 0), (1, .ifCond .ne 19, 3, 0), (4, .aload_n 0, 1, 0), (5, .getfield 84, 3, 8), (8, .ifCond .lt 12, 3, 0), (11, .aload_n 0, 1, 0), (12, .getfield 23, 3, 26), (15, .iload_n 2, 1, 0), (16, .baload, 1, 0), (17, .ifCond .ne 5, 3, 0), (20, .iconst 0, 1, 0), (21, .ireturn, 1, 0), (22, .iconst 1, 1, 0), (23, .istore 4, 2, 0), (25, .iload 4, 2, 0), (27, .iload_n 3, 1, 0), (28, .if_icmp .gt 27, 3, 0), (31, .aload_n 0, 1, 0), (32, .iload_n 2, 1, 0), (33, .iload 4, 2, 0), (35, .iadd, 1, 0), (36, .invokevirtual 151, 3, 12), (39, .aload_n 0, 1, 0), (40, .getfield 84, 3, 8), (43, .if_icmp .ne 6, 3, 0), (46, .iload 4, 2, 0), (48, .ireturn, 1, 0), (49, .iinc 4 1, 3, 0), (52, .goto (-27), 3, 0), (55, .iconst 0, 1, 0), (56, .ireturn, 1, 0)]
def r26 : List Row := [(0, .iconst 1, 1, 0), (1, .istore_n 3, 1, 0), (2, .iload_n 3, 1, 0), (3, .iload_n 2, 1, 0), (4, .if_icmp .gt 92, 3, 0), (7, .aload_n 0, 1, 0), (8, .iload_n 1, 1, 0), (9, .iload_n 3, 1, 0), (10, .iadd, 1, 0), (11, .invokevirtual 151, 3, 12), (14, .istore 4, 2, 0), (16, .aload_n 0, 1, 0), (17, .getfield 78, 3, 4), (20, .ifCond .lt 22, 3, 0), (23, .iload 4, 2, 0), (25, .aload_n 0, 1, 0), (26, .getfield 78, 3, 4), (29, .if_icmp .ne 13, 3, 0), (32, .aload_n 0, 1, 0), (33, .dup, 1, 0), (34, .getfield 200, 3, 18), (37, .lconst 1, 1, 0), (38, .ladd, 1, 0), (39, .putfield 200, 3, 18), (42, .iconst 0, 1, 0), (43, .istore 5, 2, 0), (45, .iload 5, 2, 0), (47, .iconst 4, 1, 0), (48, .if_icmp .ge 42, 3, 0), (51, .aload_n 0, 1, 0), (52, .getfield 44, 3, 33), (55, .iload 5, 2, 0), (57, .iaload, 1, 0), (58, .ifCond .lt 26, 3, 0), (61, .iload 4, 2, 0), (63, .aload_n 0, 1, 0), (64, .getfield 44, 3, 33), (67, .iload 5, 2, 0), (69, .iaload, 1, 0), (70, .if_icmp .ne 14, 3, 0), (73, .aload_n 0, 1, 0), (74, .getfield 47, 3, 34), (77, .iload 5, 2, 0), (79, .dup2, 1, 0), (80, .laload, 1, 0), (81, .lconst 1, 1, 0), (82, .ladd, 1, 0), (83, .lastore, 1, 0), (84, .iinc 5 1, 3, 0), (87, .goto (-42), 3, 0), (90, .iinc 3 1, 3, 0), (93, .goto (-91), 3, 0), (96, .return_, 1, 0)]
def r27 : List Row := [(0, .aload_n 0, 1, 0), (1, .getfield 81, 3, 7), (4, .ifCond .lt 21, 3, 0), (7, .aload_n 0, 1, 0), (8, .getfield 81, 3, 7), (11, .aload_n 0, 1, 0), (12, .getfield 64, 3, 0), (15, .if_icmp .ge 10, 3, 0), (18, .aload_n 0, 1, 0), (19, .getfield 115, 3, 22), (22, .ifCond .ne 4, 3, 0), (25, .return_, 1, 0), (26, .aload_n 0, 1, 0), (27, .getfield 13, 3, 23), (30, .aload_n 0, 1, 0), (31, .getfield 81, 3, 7), (34, .baload, 1, 0), (35, .ifCond .eq 4, 3, 0), (38, .return_, 1, 0), (39, .aload_n 0, 1, 0), (40, .iconst 0, 1, 0), (41, .aload_n 0, 1, 0), (42, .getfield 81, 3, 7), (45, .invokevirtual 165, 3, 16), (48, .ifCond .ne 4, 3, 0), (51, .return_, 1, 0), (52, .aload_n 0, 1, 0), (53, .getfield 7, 3, 20), (56, .aload_n 0, 1, 0), (57, .getfield 118, 3, 21), (60, .baload, 1, 0), (61, .istore_n 1, 1, 0), (62, .aload_n 0, 1, 0), (63, .aload_n 0, 1, 0), (64, .getfield 118, 3, 21), (67, .iconst 1, 1, 0), (68, .iadd, 1, 0), (69, .bipush 16, 2, 0), (71, .irem, 1, 0), (72, .putfield 118, 3, 21), (75, .aload_n 0, 1, 0), (76, .dup, 1, 0), (77, .getfield 115, 3, 22), (80, .iconst 1, 1, 0), (81, .isub, 1, 0), (82, .putfield 115, 3, 22), (85, .aload_n 0, 1, 0), (86, .aload_n 0, 1, 0), (87, .getfield 81, 3, 7), (90, .iconst 0, 1, 0), (91, .iload_n 1, 1, 0), (92, .invokevirtual 104, 3, 6), (95, .aload_n 0, 1, 0), (96, .dup, 1, 0), (97, .getfield 203, 3, 19), (100, .lconst 1, 1, 0), (101, .ladd, 1, 0), (102, .putfield 203, 3, 19), (105, .return_, 1, 0)]
def r28 : List Row := [(0, .iconst 0, 1, 0), (1, .istore_n 1, 1, 0), (2, .iload_n 1, 1, 0), (3, .iconst 4, 1, 0), (4, .if_icmp .ge 103, 3, 0), (7, .aload_n 0, 1, 0), (8, .getfield 44, 3, 33), (11, .iload_n 1, 1, 0), (12, .iaload, 1, 0), (13, .istore_n 2, 1, 0), (14, .iload_n 2, 1, 0), (15, .ifCond .lt 86, 3, 0), (18, .iload_n 2, 1, 0), (19, .aload_n 0, 1, 0), (20, .getfield 64, 3, 0), (23, .if_icmp .lt 6, 3, 0), (26, .goto 75, 3, 0), (29, .iconst 0, 1, 0), (30, .istore_n 3, 1, 0), (31, .iload_n 3, 1, 0), (32, .aload_n 0, 1, 0), (33, .getfield 68, 3, 1), (36, .if_icmp .ge 55, 3, 0), (39, .iload_n 3, 1, 0), (40, .sipush 128, 3, 0), (43, .imul, 1, 0), (44, .iload_n 2, 1, 0), (45, .iadd, 1, 0), (46, .istore 4, 2, 0), (48, .aload_n 0, 1, 0), (49, .getfield 13, 3, 23), (52, .iload 4, 2, 0), (54, .baload, 1, 0), (55, .ifCond .eq 30, 3, 0), (58, .aload_n 0, 1, 0), (59, .getfield 51, 3, 35), (62, .iload_n 1, 1, 0), (63, .dup2, 1, 0), (64, .laload, 1, 0), (65, .lconst 1, 1, 0), (66, .ladd, 1, 0), (67, .lastore, 1, 0), (68, .aload_n 0, 1, 0), (69, .getfield 54, 3, 36), (72, .iload_n 1, 1, 0), (73, .dup2, 1, 0), (74, .laload, 1, 0), (75, .aload_n 0, 1, 0), (76, .getfield 16, 3, 24), (79, .iload 4, 2, 0), (81, .iaload, 1, 0), (82, .i2l, 1, 0), (83, .ladd, 1, 0), (84, .lastore, 1, 0), (85, .iinc 3 1, 3, 0), (88, .goto (-57), 3, 0), (91, .aload_n 0, 1, 0), (92, .getfield 57, 3, 37), (95, .iload_n 1, 1, 0), (96, .dup2, 1, 0), (97, .laload, 1, 0), (98, .lconst 1, 1, 0), (99, .ladd, 1, 0), (100, .lastore, 1, 0), (101, .iinc 1 1, 3, 0), (104, .goto (-102), 3, 0), (107, .aload_n 0, 1, 0), (108, .dup, 1, 0), (109, .getfield 206, 3, 15), (112, .aload_n 0, 1, 0), (113, .getfield 112, 3, 12), (116, .i2l, 1, 0), (117, .ladd, 1, 0), (118, .putfield 206, 3, 15), (121, .return_, 1, 0)]
def r29 : List Row := [(0, .iload_n 1, 1, 0), (1, .ifCond .lt 27, 3, 0), (4, .iload_n 1, 1, 0), (5, .aload_n 0, 1, 0), (6, .getfield 68, 3, 1), (9, .if_icmp .ge 19, 3, 0), (12, .iload_n 2, 1, 0), (13, .ifCond .lt 15, 3, 0), (16, .iload_n 2, 1, 0), (17, .aload_n 0, 1, 0), (18, .getfield 64, 3, 0), (21, .if_icmp .ge 7, 3, 0), (24, .iconst 1, 1, 0), (25, .goto 4, 3, 0), (28, .iconst 0, 1, 0), (29, .ireturn, 1, 0)]
def r30 : List Row := [(0, .aload_n 0, 1, 0), (1, .iload_n 1, 1, 0), (2, .iload_n 2, 1, 0), (3, .invokevirtual 209, 3, 29), (6, .ifCond .ne 5, 3, 0), (9, .iconst (-1), 1, 0), (10, .ireturn, 1, 0), (11, .iload_n 1, 1, 0), (12, .sipush 128, 3, 0), (15, .imul, 1, 0), (16, .iload_n 2, 1, 0), (17, .iadd, 1, 0), (18, .istore_n 3, 1, 0), (19, .aload_n 0, 1, 0), (20, .getfield 13, 3, 23), (23, .iload_n 3, 1, 0), (24, .baload, 1, 0), (25, .ifCond .eq 12, 3, 0), (28, .aload_n 0, 1, 0), (29, .getfield 16, 3, 24), (32, .iload_n 3, 1, 0), (33, .iaload, 1, 0), (34, .goto 4, 3, 0), (37, .iconst (-1), 1, 0), (38, .ireturn, 1, 0)]
def r31 : List Row := [(0, .aload_n 0, 1, 0), (1, .iload_n 1, 1, 0), (2, .iload_n 2, 1, 0), (3, .invokevirtual 209, 3, 29), (6, .ifCond .ne 5, 3, 0), (9, .iconst (-1), 1, 0), (10, .ireturn, 1, 0), (11, .iload_n 1, 1, 0), (12, .sipush 128, 3, 0), (15, .imul, 1, 0), (16, .iload_n 2, 1, 0), (17, .iadd, 1, 0), (18, .istore_n 3, 1, 0), (19, .aload_n 0, 1, 0), (20, .getfield 13, 3, 23), (23, .iload_n 3, 1, 0), (24, .baload, 1, 0), (25, .ifCond .eq 12, 3, 0), (28, .aload_n 0, 1, 0), (29, .getfield 20, 3, 25), (32, .iload_n 3, 1, 0), (33, .iaload, 1, 0), (34, .goto 4, 3, 0), (37, .iconst (-1), 1, 0), (38, .ireturn, 1, 0)]
def r34 : List Row := [(0, .iload_n 1, 1, 0), (1, .tableswitch 107 0 9 #[55, 60, 66, 71, 76, 82, 87, 92, 97, 102], 55, 0), (56, .aload_n 0, 1, 0), (57, .getfield 147, 3, 11), (60, .lreturn, 1, 0), (61, .aload_n 0, 1, 0), (62, .getfield 112, 3, 12), (65, .i2l, 1, 0), (66, .lreturn, 1, 0), (67, .aload_n 0, 1, 0), (68, .getfield 108, 3, 13), (71, .lreturn, 1, 0), (72, .aload_n 0, 1, 0), (73, .getfield 197, 3, 14), (76, .lreturn, 1, 0), (77, .aload_n 0, 1, 0), (78, .getfield 115, 3, 22), (81, .i2l, 1, 0), (82, .lreturn, 1, 0), (83, .aload_n 0, 1, 0), (84, .getfield 206, 3, 15), (87, .lreturn, 1, 0), (88, .aload_n 0, 1, 0), (89, .getfield 188, 3, 16), (92, .lreturn, 1, 0), (93, .aload_n 0, 1, 0), (94, .getfield 175, 3, 17), (97, .lreturn, 1, 0), (98, .aload_n 0, 1, 0), (99, .getfield 200, 3, 18), (102, .lreturn, 1, 0), (103, .aload_n 0, 1, 0), (104, .getfield 203, 3, 19), (107, .lreturn, 1, 0), (108, .ldc2_w 212, 3, (-1)), (111, .lreturn, 1, 0)]
def prows : List (List Row) := [[], r1, r2, r3, r4, r5, r6, r7, r8, r9, r10, r11, r12, r13, r14, r15, r16, r17, r18, r19, r20, r21, r22, r23, r24, r25, r26, r27, r28, r29, r30, r31, [], [], r34, [], []]
def pinfo : List MInfo := [(0, 0, 9, none, {}), (5, 6, 3, none, { frames := 1, cells := 16, slots := 3876, locals := 16 }), (5, 5, 1, some .boolean, { frames := 1, cells := 0, slots := 0, locals := 15 }), (4, 4, 2, some .boolean, { frames := 0, cells := 0, slots := 0, locals := 0 }), (3, 3, 2, some .boolean, { frames := 0, cells := 0, slots := 0, locals := 0 }), (5, 6, 1, some .boolean, { frames := 1, cells := 0, slots := 0, locals := 15 }), (4, 4, 2, none, { frames := 0, cells := 0, slots := 0, locals := 0 }), (2, 3, 1, some .boolean, { frames := 0, cells := 0, slots := 0, locals := 0 }), (2, 3, 1, some .int, { frames := 6, cells := 0, slots := 0, locals := 93 }), (1, 1, 2, none, { frames := 5, cells := 0, slots := 0, locals := 81 }), (1, 2, 1, some .boolean, { frames := 0, cells := 0, slots := 0, locals := 0 }), (4, 4, 2, some .int, { frames := 0, cells := 0, slots := 0, locals := 0 }), (2, 3, 2, some .int, { frames := 0, cells := 0, slots := 0, locals := 0 }), (1, 1, 2, some .int, { frames := 0, cells := 0, slots := 0, locals := 0 }), (3, 3, 2, some .boolean, { frames := 0, cells := 0, slots := 0, locals := 0 }), (3, 6, 2, some .int, { frames := 1, cells := 0, slots := 0, locals := 14 }), (3, 6, 2, some .boolean, { frames := 1, cells := 0, slots := 0, locals := 14 }), (1, 3, 2, none, { frames := 4, cells := 0, slots := 0, locals := 67 }), (3, 9, 2, none, { frames := 3, cells := 0, slots := 0, locals := 47 }), (4, 5, 2, some .int, { frames := 2, cells := 0, slots := 0, locals := 31 }), (3, 6, 2, none, { frames := 0, cells := 0, slots := 0, locals := 0 }), (1, 3, 2, none, { frames := 3, cells := 0, slots := 0, locals := 51 }), (3, 9, 2, none, { frames := 2, cells := 0, slots := 0, locals := 31 }), (1, 3, 2, none, { frames := 3, cells := 0, slots := 0, locals := 50 }), (3, 8, 2, none, { frames := 2, cells := 0, slots := 0, locals := 31 }), (4, 5, 2, some .int, { frames := 1, cells := 0, slots := 0, locals := 14 }), (3, 6, 2, none, { frames := 1, cells := 0, slots := 0, locals := 14 }), (1, 2, 2, none, { frames := 2, cells := 0, slots := 0, locals := 31 }), (1, 5, 2, none, { frames := 0, cells := 0, slots := 0, locals := 0 }), (3, 3, 2, some .boolean, { frames := 0, cells := 0, slots := 0, locals := 0 }), (3, 4, 1, some .int, { frames := 1, cells := 0, slots := 0, locals := 14 }), (3, 4, 1, some .int, { frames := 1, cells := 0, slots := 0, locals := 14 }), (3, 4, 1, some .boolean, { frames := 1, cells := 0, slots := 0, locals := 14 }), (2, 2, 1, some .boolean, { frames := 0, cells := 0, slots := 0, locals := 0 }), (2, 2, 1, some .long, { frames := 0, cells := 0, slots := 0, locals := 0 }), (3, 3, 1, some .long, { frames := 0, cells := 0, slots := 0, locals := 0 }), (2, 2, 1, some .int, { frames := 0, cells := 0, slots := 0, locals := 0 })]
def pft : List FieldType := [.int, .int, .int, .int, .int, .int, .int, .int, .int, .int, .boolean, .long, .int, .long, .long, .long, .long, .long, .long, .long, .array .boolean, .int, .int, .array .boolean, .array .int, .array .int, .array .boolean, .array .boolean, .array .int, .array .int, .array .boolean, .array .int, .array .int, .array .int, .array .long, .array .long, .array .long, .array .long]
def pj (lw : LW) : Prog := (fun m pc => if m < 100 then (prows.getD m []).lookup pc else lw.1 (m - 100) pc, fun m => if m < 100 then pinfo.getD m (0, 0, 9, none, {}) else lw.2 (m - 100), fun k => pft.getD k .int, 38)
def lay : Lay := ([(.int, 0), (.int, 0), (.int, 0), (.int, 0), (.int, 0), (.int, 0), (.int, 0), (.int, 0), (.int, 0), (.int, 0), (.boolean, 0), (.long, 0), (.int, 0), (.long, 0), (.long, 0), (.long, 0), (.long, 0), (.long, 0), (.long, 0), (.long, 0), (.array .boolean, 1), (.int, 0), (.int, 0), (.array .boolean, 2), (.array .int, 3), (.array .int, 4), (.array .boolean, 5), (.array .boolean, 6), (.array .int, 7), (.array .int, 8), (.array .boolean, 9), (.array .int, 10), (.array .int, 11), (.array .int, 12), (.array .long, 13), (.array .long, 14), (.array .long, 15), (.array .long, 16)], [(.boolean, 16), (.boolean, 384), (.int, 384), (.int, 384), (.boolean, 384), (.boolean, 384), (.int, 384), (.int, 384), (.boolean, 384), (.int, 384), (.int, 384), (.int, 4), (.long, 4), (.long, 4), (.long, 4), (.long, 4)])
abbrev ob (H : AH) (p : Nat) (s : St) : AH := put lay 16 H p s
section Acc
variable {H : AH} {p : Nat} {s : St} {i : Int32} {j q : Nat} {v : Int32} {w : Int64}
theorem g0 : fld (put lay j H p s) p 0 = .int (sI s 0) := fld_I (ty := .int) rfl (by decide) (by simp)
theorem s0 : wr (put lay j H p s) p 0 (.int v) = put lay j H p (uI s 0 v) := wr_I (ty := .int) rfl (by decide) (by simp)
theorem g1 : fld (put lay j H p s) p 1 = .int (sI s 1) := fld_I (ty := .int) rfl (by decide) (by simp)
theorem s1 : wr (put lay j H p s) p 1 (.int v) = put lay j H p (uI s 1 v) := wr_I (ty := .int) rfl (by decide) (by simp)
theorem g2 : fld (put lay j H p s) p 2 = .int (sI s 2) := fld_I (ty := .int) rfl (by decide) (by simp)
theorem s2 : wr (put lay j H p s) p 2 (.int v) = put lay j H p (uI s 2 v) := wr_I (ty := .int) rfl (by decide) (by simp)
theorem g3 : fld (put lay j H p s) p 3 = .int (sI s 3) := fld_I (ty := .int) rfl (by decide) (by simp)
theorem s3 : wr (put lay j H p s) p 3 (.int v) = put lay j H p (uI s 3 v) := wr_I (ty := .int) rfl (by decide) (by simp)
theorem g4 : fld (put lay j H p s) p 4 = .int (sI s 4) := fld_I (ty := .int) rfl (by decide) (by simp)
theorem s4 : wr (put lay j H p s) p 4 (.int v) = put lay j H p (uI s 4 v) := wr_I (ty := .int) rfl (by decide) (by simp)
theorem g5 : fld (put lay j H p s) p 5 = .int (sI s 5) := fld_I (ty := .int) rfl (by decide) (by simp)
theorem s5 : wr (put lay j H p s) p 5 (.int v) = put lay j H p (uI s 5 v) := wr_I (ty := .int) rfl (by decide) (by simp)
theorem g6 : fld (put lay j H p s) p 6 = .int (sI s 6) := fld_I (ty := .int) rfl (by decide) (by simp)
theorem s6 : wr (put lay j H p s) p 6 (.int v) = put lay j H p (uI s 6 v) := wr_I (ty := .int) rfl (by decide) (by simp)
theorem g7 : fld (put lay j H p s) p 7 = .int (sI s 7) := fld_I (ty := .int) rfl (by decide) (by simp)
theorem s7 : wr (put lay j H p s) p 7 (.int v) = put lay j H p (uI s 7 v) := wr_I (ty := .int) rfl (by decide) (by simp)
theorem g8 : fld (put lay j H p s) p 8 = .int (sI s 8) := fld_I (ty := .int) rfl (by decide) (by simp)
theorem s8 : wr (put lay j H p s) p 8 (.int v) = put lay j H p (uI s 8 v) := wr_I (ty := .int) rfl (by decide) (by simp)
theorem g9 : fld (put lay j H p s) p 9 = .int (sI s 9) := fld_I (ty := .int) rfl (by decide) (by simp)
theorem s9 : wr (put lay j H p s) p 9 (.int v) = put lay j H p (uI s 9 v) := wr_I (ty := .int) rfl (by decide) (by simp)
theorem g10 : fld (put lay j H p s) p 10 = .int (sI s 10) := fld_I (ty := .boolean) rfl (by decide) (by simp)
theorem s10 : wr (put lay j H p s) p 10 (.int v) = put lay j H p (uI s 10 v) := wr_I (ty := .boolean) rfl (by decide) (by simp)
theorem g11 : fld (put lay j H p s) p 11 = .long (sJ s 11) := fld_J rfl
theorem s11 : wr (put lay j H p s) p 11 (.long w) = put lay j H p (uJ s 11 w) := wr_J rfl
theorem g12 : fld (put lay j H p s) p 12 = .int (sI s 12) := fld_I (ty := .int) rfl (by decide) (by simp)
theorem s12 : wr (put lay j H p s) p 12 (.int v) = put lay j H p (uI s 12 v) := wr_I (ty := .int) rfl (by decide) (by simp)
theorem g13 : fld (put lay j H p s) p 13 = .long (sJ s 13) := fld_J rfl
theorem s13 : wr (put lay j H p s) p 13 (.long w) = put lay j H p (uJ s 13 w) := wr_J rfl
theorem g14 : fld (put lay j H p s) p 14 = .long (sJ s 14) := fld_J rfl
theorem s14 : wr (put lay j H p s) p 14 (.long w) = put lay j H p (uJ s 14 w) := wr_J rfl
theorem g15 : fld (put lay j H p s) p 15 = .long (sJ s 15) := fld_J rfl
theorem s15 : wr (put lay j H p s) p 15 (.long w) = put lay j H p (uJ s 15 w) := wr_J rfl
theorem g16 : fld (put lay j H p s) p 16 = .long (sJ s 16) := fld_J rfl
theorem s16 : wr (put lay j H p s) p 16 (.long w) = put lay j H p (uJ s 16 w) := wr_J rfl
theorem g17 : fld (put lay j H p s) p 17 = .long (sJ s 17) := fld_J rfl
theorem s17 : wr (put lay j H p s) p 17 (.long w) = put lay j H p (uJ s 17 w) := wr_J rfl
theorem g18 : fld (put lay j H p s) p 18 = .long (sJ s 18) := fld_J rfl
theorem s18 : wr (put lay j H p s) p 18 (.long w) = put lay j H p (uJ s 18 w) := wr_J rfl
theorem g19 : fld (put lay j H p s) p 19 = .long (sJ s 19) := fld_J rfl
theorem s19 : wr (put lay j H p s) p 19 (.long w) = put lay j H p (uJ s 19 w) := wr_J rfl
theorem g20 : fld (ob H p s) p 20 = .ref (p + 1) := fld_R (ty := .boolean) rfl (by decide)
theorem g21 : fld (put lay j H p s) p 21 = .int (sI s 21) := fld_I (ty := .int) rfl (by decide) (by simp)
theorem s21 : wr (put lay j H p s) p 21 (.int v) = put lay j H p (uI s 21 v) := wr_I (ty := .int) rfl (by decide) (by simp)
theorem g22 : fld (put lay j H p s) p 22 = .int (sI s 22) := fld_I (ty := .int) rfl (by decide) (by simp)
theorem s22 : wr (put lay j H p s) p 22 (.int v) = put lay j H p (uI s 22 v) := wr_I (ty := .int) rfl (by decide) (by simp)
theorem g23 : fld (ob H p s) p 23 = .ref (p + 2) := fld_R (ty := .boolean) rfl (by decide)
theorem g24 : fld (ob H p s) p 24 = .ref (p + 3) := fld_R (ty := .int) rfl (by decide)
theorem g25 : fld (ob H p s) p 25 = .ref (p + 4) := fld_R (ty := .int) rfl (by decide)
theorem g26 : fld (ob H p s) p 26 = .ref (p + 5) := fld_R (ty := .boolean) rfl (by decide)
theorem g27 : fld (ob H p s) p 27 = .ref (p + 6) := fld_R (ty := .boolean) rfl (by decide)
theorem g28 : fld (ob H p s) p 28 = .ref (p + 7) := fld_R (ty := .int) rfl (by decide)
theorem g29 : fld (ob H p s) p 29 = .ref (p + 8) := fld_R (ty := .int) rfl (by decide)
theorem g30 : fld (ob H p s) p 30 = .ref (p + 9) := fld_R (ty := .boolean) rfl (by decide)
theorem g31 : fld (ob H p s) p 31 = .ref (p + 10) := fld_R (ty := .int) rfl (by decide)
theorem g32 : fld (ob H p s) p 32 = .ref (p + 11) := fld_R (ty := .int) rfl (by decide)
theorem g33 : fld (ob H p s) p 33 = .ref (p + 12) := fld_R (ty := .int) rfl (by decide)
theorem g34 : fld (ob H p s) p 34 = .ref (p + 13) := fld_R (ty := .long) rfl (by decide)
theorem g35 : fld (ob H p s) p 35 = .ref (p + 14) := fld_R (ty := .long) rfl (by decide)
theorem g36 : fld (ob H p s) p 36 = .ref (p + 15) := fld_R (ty := .long) rfl (by decide)
theorem g37 : fld (ob H p s) p 37 = .ref (p + 16) := fld_R (ty := .long) rfl (by decide)
theorem ai1 : inA (ob H p s) (p + 1) .boolean i = true ↔ (0 ≤ i.toInt ∧ i.toInt < 16) := inA_I (t := 0) rfl (by decide) (by decide)
theorem aw1 : inAw (ob H p s) (p + 1) .boolean i = true ↔ (0 ≤ i.toInt ∧ i.toInt < 16) := inAw_I (t := 0) rfl (by decide) (by decide)
theorem ain1 : inA (ob H p s) (p + 1) .byte i = true ↔ False := inA_no (t := 0) (ty := .boolean) rfl (by decide) (by decide) (by decide)
theorem awn1 : inAw (ob H p s) (p + 1) .byte i = true ↔ False := inAw_no (t := 0) (ty := .boolean) rfl (by decide) (by decide) (by decide)
theorem ae1 : elt (ob H p s) (p + 1) i = .int (sA s 1 i.toNatClampNeg) := elt_I (t := 0) (ty := .boolean) rfl (by decide) (by decide)
theorem as1 : wr (ob H p s) (p + 1) q (.int v) = ob H p (uA s 1 q v) := wr_A (t := 0) (ty := .boolean) rfl (by decide) (by decide)
theorem ai2 : inA (ob H p s) (p + 2) .boolean i = true ↔ (0 ≤ i.toInt ∧ i.toInt < 384) := inA_I (t := 1) rfl (by decide) (by decide)
theorem aw2 : inAw (ob H p s) (p + 2) .boolean i = true ↔ (0 ≤ i.toInt ∧ i.toInt < 384) := inAw_I (t := 1) rfl (by decide) (by decide)
theorem ain2 : inA (ob H p s) (p + 2) .byte i = true ↔ False := inA_no (t := 1) (ty := .boolean) rfl (by decide) (by decide) (by decide)
theorem awn2 : inAw (ob H p s) (p + 2) .byte i = true ↔ False := inAw_no (t := 1) (ty := .boolean) rfl (by decide) (by decide) (by decide)
theorem ae2 : elt (ob H p s) (p + 2) i = .int (sA s 2 i.toNatClampNeg) := elt_I (t := 1) (ty := .boolean) rfl (by decide) (by decide)
theorem as2 : wr (ob H p s) (p + 2) q (.int v) = ob H p (uA s 2 q v) := wr_A (t := 1) (ty := .boolean) rfl (by decide) (by decide)
theorem ai3 : inA (ob H p s) (p + 3) .int i = true ↔ (0 ≤ i.toInt ∧ i.toInt < 384) := inA_I (t := 2) rfl (by decide) (by decide)
theorem aw3 : inAw (ob H p s) (p + 3) .int i = true ↔ (0 ≤ i.toInt ∧ i.toInt < 384) := inAw_I (t := 2) rfl (by decide) (by decide)
theorem ae3 : elt (ob H p s) (p + 3) i = .int (sA s 3 i.toNatClampNeg) := elt_I (t := 2) (ty := .int) rfl (by decide) (by decide)
theorem as3 : wr (ob H p s) (p + 3) q (.int v) = ob H p (uA s 3 q v) := wr_A (t := 2) (ty := .int) rfl (by decide) (by decide)
theorem ai4 : inA (ob H p s) (p + 4) .int i = true ↔ (0 ≤ i.toInt ∧ i.toInt < 384) := inA_I (t := 3) rfl (by decide) (by decide)
theorem aw4 : inAw (ob H p s) (p + 4) .int i = true ↔ (0 ≤ i.toInt ∧ i.toInt < 384) := inAw_I (t := 3) rfl (by decide) (by decide)
theorem ae4 : elt (ob H p s) (p + 4) i = .int (sA s 4 i.toNatClampNeg) := elt_I (t := 3) (ty := .int) rfl (by decide) (by decide)
theorem as4 : wr (ob H p s) (p + 4) q (.int v) = ob H p (uA s 4 q v) := wr_A (t := 3) (ty := .int) rfl (by decide) (by decide)
theorem ai5 : inA (ob H p s) (p + 5) .boolean i = true ↔ (0 ≤ i.toInt ∧ i.toInt < 384) := inA_I (t := 4) rfl (by decide) (by decide)
theorem aw5 : inAw (ob H p s) (p + 5) .boolean i = true ↔ (0 ≤ i.toInt ∧ i.toInt < 384) := inAw_I (t := 4) rfl (by decide) (by decide)
theorem ain5 : inA (ob H p s) (p + 5) .byte i = true ↔ False := inA_no (t := 4) (ty := .boolean) rfl (by decide) (by decide) (by decide)
theorem awn5 : inAw (ob H p s) (p + 5) .byte i = true ↔ False := inAw_no (t := 4) (ty := .boolean) rfl (by decide) (by decide) (by decide)
theorem ae5 : elt (ob H p s) (p + 5) i = .int (sA s 5 i.toNatClampNeg) := elt_I (t := 4) (ty := .boolean) rfl (by decide) (by decide)
theorem as5 : wr (ob H p s) (p + 5) q (.int v) = ob H p (uA s 5 q v) := wr_A (t := 4) (ty := .boolean) rfl (by decide) (by decide)
theorem ai6 : inA (ob H p s) (p + 6) .boolean i = true ↔ (0 ≤ i.toInt ∧ i.toInt < 384) := inA_I (t := 5) rfl (by decide) (by decide)
theorem aw6 : inAw (ob H p s) (p + 6) .boolean i = true ↔ (0 ≤ i.toInt ∧ i.toInt < 384) := inAw_I (t := 5) rfl (by decide) (by decide)
theorem ain6 : inA (ob H p s) (p + 6) .byte i = true ↔ False := inA_no (t := 5) (ty := .boolean) rfl (by decide) (by decide) (by decide)
theorem awn6 : inAw (ob H p s) (p + 6) .byte i = true ↔ False := inAw_no (t := 5) (ty := .boolean) rfl (by decide) (by decide) (by decide)
theorem ae6 : elt (ob H p s) (p + 6) i = .int (sA s 6 i.toNatClampNeg) := elt_I (t := 5) (ty := .boolean) rfl (by decide) (by decide)
theorem as6 : wr (ob H p s) (p + 6) q (.int v) = ob H p (uA s 6 q v) := wr_A (t := 5) (ty := .boolean) rfl (by decide) (by decide)
theorem ai7 : inA (ob H p s) (p + 7) .int i = true ↔ (0 ≤ i.toInt ∧ i.toInt < 384) := inA_I (t := 6) rfl (by decide) (by decide)
theorem aw7 : inAw (ob H p s) (p + 7) .int i = true ↔ (0 ≤ i.toInt ∧ i.toInt < 384) := inAw_I (t := 6) rfl (by decide) (by decide)
theorem ae7 : elt (ob H p s) (p + 7) i = .int (sA s 7 i.toNatClampNeg) := elt_I (t := 6) (ty := .int) rfl (by decide) (by decide)
theorem as7 : wr (ob H p s) (p + 7) q (.int v) = ob H p (uA s 7 q v) := wr_A (t := 6) (ty := .int) rfl (by decide) (by decide)
theorem ai8 : inA (ob H p s) (p + 8) .int i = true ↔ (0 ≤ i.toInt ∧ i.toInt < 384) := inA_I (t := 7) rfl (by decide) (by decide)
theorem aw8 : inAw (ob H p s) (p + 8) .int i = true ↔ (0 ≤ i.toInt ∧ i.toInt < 384) := inAw_I (t := 7) rfl (by decide) (by decide)
theorem ae8 : elt (ob H p s) (p + 8) i = .int (sA s 8 i.toNatClampNeg) := elt_I (t := 7) (ty := .int) rfl (by decide) (by decide)
theorem as8 : wr (ob H p s) (p + 8) q (.int v) = ob H p (uA s 8 q v) := wr_A (t := 7) (ty := .int) rfl (by decide) (by decide)
theorem ai9 : inA (ob H p s) (p + 9) .boolean i = true ↔ (0 ≤ i.toInt ∧ i.toInt < 384) := inA_I (t := 8) rfl (by decide) (by decide)
theorem aw9 : inAw (ob H p s) (p + 9) .boolean i = true ↔ (0 ≤ i.toInt ∧ i.toInt < 384) := inAw_I (t := 8) rfl (by decide) (by decide)
theorem ain9 : inA (ob H p s) (p + 9) .byte i = true ↔ False := inA_no (t := 8) (ty := .boolean) rfl (by decide) (by decide) (by decide)
theorem awn9 : inAw (ob H p s) (p + 9) .byte i = true ↔ False := inAw_no (t := 8) (ty := .boolean) rfl (by decide) (by decide) (by decide)
theorem ae9 : elt (ob H p s) (p + 9) i = .int (sA s 9 i.toNatClampNeg) := elt_I (t := 8) (ty := .boolean) rfl (by decide) (by decide)
theorem as9 : wr (ob H p s) (p + 9) q (.int v) = ob H p (uA s 9 q v) := wr_A (t := 8) (ty := .boolean) rfl (by decide) (by decide)
theorem ai10 : inA (ob H p s) (p + 10) .int i = true ↔ (0 ≤ i.toInt ∧ i.toInt < 384) := inA_I (t := 9) rfl (by decide) (by decide)
theorem aw10 : inAw (ob H p s) (p + 10) .int i = true ↔ (0 ≤ i.toInt ∧ i.toInt < 384) := inAw_I (t := 9) rfl (by decide) (by decide)
theorem ae10 : elt (ob H p s) (p + 10) i = .int (sA s 10 i.toNatClampNeg) := elt_I (t := 9) (ty := .int) rfl (by decide) (by decide)
theorem as10 : wr (ob H p s) (p + 10) q (.int v) = ob H p (uA s 10 q v) := wr_A (t := 9) (ty := .int) rfl (by decide) (by decide)
theorem ai11 : inA (ob H p s) (p + 11) .int i = true ↔ (0 ≤ i.toInt ∧ i.toInt < 384) := inA_I (t := 10) rfl (by decide) (by decide)
theorem aw11 : inAw (ob H p s) (p + 11) .int i = true ↔ (0 ≤ i.toInt ∧ i.toInt < 384) := inAw_I (t := 10) rfl (by decide) (by decide)
theorem ae11 : elt (ob H p s) (p + 11) i = .int (sA s 11 i.toNatClampNeg) := elt_I (t := 10) (ty := .int) rfl (by decide) (by decide)
theorem as11 : wr (ob H p s) (p + 11) q (.int v) = ob H p (uA s 11 q v) := wr_A (t := 10) (ty := .int) rfl (by decide) (by decide)
theorem ai12 : inA (ob H p s) (p + 12) .int i = true ↔ (0 ≤ i.toInt ∧ i.toInt < 4) := inA_I (t := 11) rfl (by decide) (by decide)
theorem aw12 : inAw (ob H p s) (p + 12) .int i = true ↔ (0 ≤ i.toInt ∧ i.toInt < 4) := inAw_I (t := 11) rfl (by decide) (by decide)
theorem ae12 : elt (ob H p s) (p + 12) i = .int (sA s 12 i.toNatClampNeg) := elt_I (t := 11) (ty := .int) rfl (by decide) (by decide)
theorem as12 : wr (ob H p s) (p + 12) q (.int v) = ob H p (uA s 12 q v) := wr_A (t := 11) (ty := .int) rfl (by decide) (by decide)
theorem ai13 : inA (ob H p s) (p + 13) .long i = true ↔ (0 ≤ i.toInt ∧ i.toInt < 4) := inA_J (t := 12) rfl (by decide)
theorem aw13 : inAw (ob H p s) (p + 13) .long i = true ↔ (0 ≤ i.toInt ∧ i.toInt < 4) := inAw_J (t := 12) rfl (by decide)
theorem ae13 : elt (ob H p s) (p + 13) i = .long (sB s 13 i.toNatClampNeg) := elt_J (t := 12) rfl (by decide)
theorem as13 : wr (ob H p s) (p + 13) q (.long w) = ob H p (uB s 13 q w) := wr_B (t := 12) rfl (by decide)
theorem ai14 : inA (ob H p s) (p + 14) .long i = true ↔ (0 ≤ i.toInt ∧ i.toInt < 4) := inA_J (t := 13) rfl (by decide)
theorem aw14 : inAw (ob H p s) (p + 14) .long i = true ↔ (0 ≤ i.toInt ∧ i.toInt < 4) := inAw_J (t := 13) rfl (by decide)
theorem ae14 : elt (ob H p s) (p + 14) i = .long (sB s 14 i.toNatClampNeg) := elt_J (t := 13) rfl (by decide)
theorem as14 : wr (ob H p s) (p + 14) q (.long w) = ob H p (uB s 14 q w) := wr_B (t := 13) rfl (by decide)
theorem ai15 : inA (ob H p s) (p + 15) .long i = true ↔ (0 ≤ i.toInt ∧ i.toInt < 4) := inA_J (t := 14) rfl (by decide)
theorem aw15 : inAw (ob H p s) (p + 15) .long i = true ↔ (0 ≤ i.toInt ∧ i.toInt < 4) := inAw_J (t := 14) rfl (by decide)
theorem ae15 : elt (ob H p s) (p + 15) i = .long (sB s 15 i.toNatClampNeg) := elt_J (t := 14) rfl (by decide)
theorem as15 : wr (ob H p s) (p + 15) q (.long w) = ob H p (uB s 15 q w) := wr_B (t := 14) rfl (by decide)
theorem ai16 : inA (ob H p s) (p + 16) .long i = true ↔ (0 ≤ i.toInt ∧ i.toInt < 4) := inA_J (t := 15) rfl (by decide)
theorem aw16 : inAw (ob H p s) (p + 16) .long i = true ↔ (0 ≤ i.toInt ∧ i.toInt < 4) := inAw_J (t := 15) rfl (by decide)
theorem ae16 : elt (ob H p s) (p + 16) i = .long (sB s 16 i.toNatClampNeg) := elt_J (t := 15) rfl (by decide)
theorem as16 : wr (ob H p s) (p + 16) q (.long w) = ob H p (uB s 16 q w) := wr_B (t := 15) rfl (by decide)
theorem mkO_ob {lw : LW} : mkO (pj lw) H = put lay 0 (H.1 + 1, H.2) H.1 z0 := mkO_put rfl (fun k => match k with | 0 => rfl | 1 => rfl | 2 => rfl | 3 => rfl | 4 => rfl | 5 => rfl | 6 => rfl | 7 => rfl | 8 => rfl | 9 => rfl | 10 => rfl | 11 => rfl | 12 => rfl | 13 => rfl | 14 => rfl | 15 => rfl | 16 => rfl | 17 => rfl | 18 => rfl | 19 => rfl | 20 => rfl | 21 => rfl | 22 => rfl | 23 => rfl | 24 => rfl | 25 => rfl | 26 => rfl | 27 => rfl | 28 => rfl | 29 => rfl | 30 => rfl | 31 => rfl | 32 => rfl | 33 => rfl | 34 => rfl | 35 => rfl | 36 => rfl | 37 => rfl | (_ + 38) => rfl)
theorem mk1 {h : Nat → Cel} (hz : zr s 1) : wr (mkA .boolean 16 (put lay 0 (p + 1, h) p s)) p 20 (.ref (p + 1)) = put lay 1 (p + 2, h) p s := mkA_put (j := 0) rfl rfl (by decide) hz.1 hz.2 (Or.inr (Or.inr (Or.inr rfl)))
theorem io1 {h : Nat → Cel} : isOw (mkA .boolean 16 (put lay 0 (p + 1, h) p s)) p = true := isOw_mk (c := 0)
theorem mk2 {h : Nat → Cel} (hz : zr s 2) : wr (mkA .boolean 384 (put lay 1 (p + 2, h) p s)) p 23 (.ref (p + 2)) = put lay 2 (p + 3, h) p s := mkA_put (j := 1) rfl rfl (by decide) hz.1 hz.2 (Or.inr (Or.inr (Or.inr rfl)))
theorem io2 {h : Nat → Cel} : isOw (mkA .boolean 384 (put lay 1 (p + 2, h) p s)) p = true := isOw_mk (c := 1)
theorem mk3 {h : Nat → Cel} (hz : zr s 3) : wr (mkA .int 384 (put lay 2 (p + 3, h) p s)) p 24 (.ref (p + 3)) = put lay 3 (p + 4, h) p s := mkA_put (j := 2) rfl rfl (by decide) hz.1 hz.2 (Or.inl rfl)
theorem io3 {h : Nat → Cel} : isOw (mkA .int 384 (put lay 2 (p + 3, h) p s)) p = true := isOw_mk (c := 2)
theorem mk4 {h : Nat → Cel} (hz : zr s 4) : wr (mkA .int 384 (put lay 3 (p + 4, h) p s)) p 25 (.ref (p + 4)) = put lay 4 (p + 5, h) p s := mkA_put (j := 3) rfl rfl (by decide) hz.1 hz.2 (Or.inl rfl)
theorem io4 {h : Nat → Cel} : isOw (mkA .int 384 (put lay 3 (p + 4, h) p s)) p = true := isOw_mk (c := 3)
theorem mk5 {h : Nat → Cel} (hz : zr s 5) : wr (mkA .boolean 384 (put lay 4 (p + 5, h) p s)) p 26 (.ref (p + 5)) = put lay 5 (p + 6, h) p s := mkA_put (j := 4) rfl rfl (by decide) hz.1 hz.2 (Or.inr (Or.inr (Or.inr rfl)))
theorem io5 {h : Nat → Cel} : isOw (mkA .boolean 384 (put lay 4 (p + 5, h) p s)) p = true := isOw_mk (c := 4)
theorem mk6 {h : Nat → Cel} (hz : zr s 6) : wr (mkA .boolean 384 (put lay 5 (p + 6, h) p s)) p 27 (.ref (p + 6)) = put lay 6 (p + 7, h) p s := mkA_put (j := 5) rfl rfl (by decide) hz.1 hz.2 (Or.inr (Or.inr (Or.inr rfl)))
theorem io6 {h : Nat → Cel} : isOw (mkA .boolean 384 (put lay 5 (p + 6, h) p s)) p = true := isOw_mk (c := 5)
theorem mk7 {h : Nat → Cel} (hz : zr s 7) : wr (mkA .int 384 (put lay 6 (p + 7, h) p s)) p 28 (.ref (p + 7)) = put lay 7 (p + 8, h) p s := mkA_put (j := 6) rfl rfl (by decide) hz.1 hz.2 (Or.inl rfl)
theorem io7 {h : Nat → Cel} : isOw (mkA .int 384 (put lay 6 (p + 7, h) p s)) p = true := isOw_mk (c := 6)
theorem mk8 {h : Nat → Cel} (hz : zr s 8) : wr (mkA .int 384 (put lay 7 (p + 8, h) p s)) p 29 (.ref (p + 8)) = put lay 8 (p + 9, h) p s := mkA_put (j := 7) rfl rfl (by decide) hz.1 hz.2 (Or.inl rfl)
theorem io8 {h : Nat → Cel} : isOw (mkA .int 384 (put lay 7 (p + 8, h) p s)) p = true := isOw_mk (c := 7)
theorem mk9 {h : Nat → Cel} (hz : zr s 9) : wr (mkA .boolean 384 (put lay 8 (p + 9, h) p s)) p 30 (.ref (p + 9)) = put lay 9 (p + 10, h) p s := mkA_put (j := 8) rfl rfl (by decide) hz.1 hz.2 (Or.inr (Or.inr (Or.inr rfl)))
theorem io9 {h : Nat → Cel} : isOw (mkA .boolean 384 (put lay 8 (p + 9, h) p s)) p = true := isOw_mk (c := 8)
theorem mk10 {h : Nat → Cel} (hz : zr s 10) : wr (mkA .int 384 (put lay 9 (p + 10, h) p s)) p 31 (.ref (p + 10)) = put lay 10 (p + 11, h) p s := mkA_put (j := 9) rfl rfl (by decide) hz.1 hz.2 (Or.inl rfl)
theorem io10 {h : Nat → Cel} : isOw (mkA .int 384 (put lay 9 (p + 10, h) p s)) p = true := isOw_mk (c := 9)
theorem mk11 {h : Nat → Cel} (hz : zr s 11) : wr (mkA .int 384 (put lay 10 (p + 11, h) p s)) p 32 (.ref (p + 11)) = put lay 11 (p + 12, h) p s := mkA_put (j := 10) rfl rfl (by decide) hz.1 hz.2 (Or.inl rfl)
theorem io11 {h : Nat → Cel} : isOw (mkA .int 384 (put lay 10 (p + 11, h) p s)) p = true := isOw_mk (c := 10)
theorem mk12 {h : Nat → Cel} (hz : zr s 12) : wr (mkA .int 4 (put lay 11 (p + 12, h) p s)) p 33 (.ref (p + 12)) = put lay 12 (p + 13, h) p s := mkA_put (j := 11) rfl rfl (by decide) hz.1 hz.2 (Or.inl rfl)
theorem io12 {h : Nat → Cel} : isOw (mkA .int 4 (put lay 11 (p + 12, h) p s)) p = true := isOw_mk (c := 11)
theorem mk13 {h : Nat → Cel} (hz : zr s 13) : wr (mkA .long 4 (put lay 12 (p + 13, h) p s)) p 34 (.ref (p + 13)) = put lay 13 (p + 14, h) p s := mkA_put (j := 12) rfl rfl (by decide) hz.1 hz.2 (Or.inr (Or.inl rfl))
theorem io13 {h : Nat → Cel} : isOw (mkA .long 4 (put lay 12 (p + 13, h) p s)) p = true := isOw_mk (c := 12)
theorem mk14 {h : Nat → Cel} (hz : zr s 14) : wr (mkA .long 4 (put lay 13 (p + 14, h) p s)) p 35 (.ref (p + 14)) = put lay 14 (p + 15, h) p s := mkA_put (j := 13) rfl rfl (by decide) hz.1 hz.2 (Or.inr (Or.inl rfl))
theorem io14 {h : Nat → Cel} : isOw (mkA .long 4 (put lay 13 (p + 14, h) p s)) p = true := isOw_mk (c := 13)
theorem mk15 {h : Nat → Cel} (hz : zr s 15) : wr (mkA .long 4 (put lay 14 (p + 15, h) p s)) p 36 (.ref (p + 15)) = put lay 15 (p + 16, h) p s := mkA_put (j := 14) rfl rfl (by decide) hz.1 hz.2 (Or.inr (Or.inl rfl))
theorem io15 {h : Nat → Cel} : isOw (mkA .long 4 (put lay 14 (p + 15, h) p s)) p = true := isOw_mk (c := 14)
theorem mk16 {h : Nat → Cel} (hz : zr s 16) : wr (mkA .long 4 (put lay 15 (p + 16, h) p s)) p 37 (.ref (p + 16)) = put lay 16 (p + 17, h) p s := mkA_put (j := 15) rfl rfl (by decide) hz.1 hz.2 (Or.inr (Or.inl rfl))
theorem io16 {h : Nat → Cel} : isOw (mkA .long 4 (put lay 15 (p + 16, h) p s)) p = true := isOw_mk (c := 15)
end Acc
section Pc
variable {lw : LW} {L : List Slot} {S : List Value} {k n : Nat} {H : AH} {Q : Option Value → AH → Prop}
theorem c1 {x0 : Nat} {x1 : Int32} {x2 : Int32} {x3 : Int32} {x4 : Int32} : Cl (pj lw) 1 [.ref x0, .int x1, .int x2, .int x3, .int x4] H Q ↔ W (pj lw) 1 0 [.val (.ref x0), .val (.int x1), .val (.int x2), .val (.int x3), .val (.int x4), .unset] [] 0 0 H Q := cl_unf rfl
theorem w1_0 {x : Nat} : W (pj lw) 1 0 (.val (.ref x) :: L) S k n H Q ↔ W (pj lw) 1 1 (.val (.ref x) :: L) (.ref x :: S) k n H Q := W_s (rfl : (pj lw).1 1 0 = some (.aload_n 0, 1, 0)) rfl rfl rfl
theorem w1_1 {a : Nat} : W (pj lw) 1 1 L (.ref a :: S) k n H Q ↔ ((1 ≤ 1 ∧ cs S + 12 ≤ 16) ∧ W (pj lw) 1 4 L S k n H Q) := W_oinit (rfl : (pj lw).1 1 1 = some (.invokespecial 1, 3, (-1)))
theorem w1_4 {x : Nat} : W (pj lw) 1 4 (.val (.ref x) :: L) S k n H Q ↔ W (pj lw) 1 5 (.val (.ref x) :: L) (.ref x :: S) k n H Q := W_s (rfl : (pj lw).1 1 4 = some (.aload_n 0, 1, 0)) rfl rfl rfl
theorem w1_5 : W (pj lw) 1 5 L S k n H Q ↔ W (pj lw) 1 7 L (.int 16 :: S) k n H Q := W_s (rfl : (pj lw).1 1 5 = some (.bipush 16, 2, 0)) rfl rfl rfl
theorem w1_7 : W (pj lw) 1 7 L (.int 16 :: S) k n H Q ↔ ((k + 1 ≤ 16 ∧ n + 16 ≤ 3876) ∧ W (pj lw) 1 9 L (.ref H.1 :: S) (k + 1) (n + 16) (mkA .boolean 16 H) Q) := W_newarr' (rfl : (pj lw).1 1 7 = some (.newarray .boolean, 2, 0)) rfl (by decide) (by decide)
theorem w1_9 {a : Nat} {v : Value} : W (pj lw) 1 9 L (v :: .ref a :: S) k n H Q ↔ ((isOw H a = true ∧ okv (.array .boolean) v = true) ∧ W (pj lw) 1 12 L S k n (wr H a 20 v) Q) := W_putf (rfl : (pj lw).1 1 9 = some (.putfield 7, 3, 20))
theorem w1_12 {x : Nat} : W (pj lw) 1 12 (.val (.ref x) :: L) S k n H Q ↔ W (pj lw) 1 13 (.val (.ref x) :: L) (.ref x :: S) k n H Q := W_s (rfl : (pj lw).1 1 12 = some (.aload_n 0, 1, 0)) rfl rfl rfl
theorem w1_13 : W (pj lw) 1 13 L S k n H Q ↔ W (pj lw) 1 16 L (.int 384 :: S) k n H Q := W_s (rfl : (pj lw).1 1 13 = some (.sipush 384, 3, 0)) rfl rfl rfl
theorem w1_16 : W (pj lw) 1 16 L (.int 384 :: S) k n H Q ↔ ((k + 1 ≤ 16 ∧ n + 384 ≤ 3876) ∧ W (pj lw) 1 18 L (.ref H.1 :: S) (k + 1) (n + 384) (mkA .boolean 384 H) Q) := W_newarr' (rfl : (pj lw).1 1 16 = some (.newarray .boolean, 2, 0)) rfl (by decide) (by decide)
theorem w1_18 {a : Nat} {v : Value} : W (pj lw) 1 18 L (v :: .ref a :: S) k n H Q ↔ ((isOw H a = true ∧ okv (.array .boolean) v = true) ∧ W (pj lw) 1 21 L S k n (wr H a 23 v) Q) := W_putf (rfl : (pj lw).1 1 18 = some (.putfield 13, 3, 23))
theorem w1_21 {x : Nat} : W (pj lw) 1 21 (.val (.ref x) :: L) S k n H Q ↔ W (pj lw) 1 22 (.val (.ref x) :: L) (.ref x :: S) k n H Q := W_s (rfl : (pj lw).1 1 21 = some (.aload_n 0, 1, 0)) rfl rfl rfl
theorem w1_22 : W (pj lw) 1 22 L S k n H Q ↔ W (pj lw) 1 25 L (.int 384 :: S) k n H Q := W_s (rfl : (pj lw).1 1 22 = some (.sipush 384, 3, 0)) rfl rfl rfl
theorem w1_25 : W (pj lw) 1 25 L (.int 384 :: S) k n H Q ↔ ((k + 1 ≤ 16 ∧ n + 384 ≤ 3876) ∧ W (pj lw) 1 27 L (.ref H.1 :: S) (k + 1) (n + 384) (mkA .int 384 H) Q) := W_newarr' (rfl : (pj lw).1 1 25 = some (.newarray .int, 2, 0)) rfl (by decide) (by decide)
theorem w1_27 {a : Nat} {v : Value} : W (pj lw) 1 27 L (v :: .ref a :: S) k n H Q ↔ ((isOw H a = true ∧ okv (.array .int) v = true) ∧ W (pj lw) 1 30 L S k n (wr H a 24 v) Q) := W_putf (rfl : (pj lw).1 1 27 = some (.putfield 16, 3, 24))
theorem w1_30 {x : Nat} : W (pj lw) 1 30 (.val (.ref x) :: L) S k n H Q ↔ W (pj lw) 1 31 (.val (.ref x) :: L) (.ref x :: S) k n H Q := W_s (rfl : (pj lw).1 1 30 = some (.aload_n 0, 1, 0)) rfl rfl rfl
theorem w1_31 : W (pj lw) 1 31 L S k n H Q ↔ W (pj lw) 1 34 L (.int 384 :: S) k n H Q := W_s (rfl : (pj lw).1 1 31 = some (.sipush 384, 3, 0)) rfl rfl rfl
theorem w1_34 : W (pj lw) 1 34 L (.int 384 :: S) k n H Q ↔ ((k + 1 ≤ 16 ∧ n + 384 ≤ 3876) ∧ W (pj lw) 1 36 L (.ref H.1 :: S) (k + 1) (n + 384) (mkA .int 384 H) Q) := W_newarr' (rfl : (pj lw).1 1 34 = some (.newarray .int, 2, 0)) rfl (by decide) (by decide)
theorem w1_36 {a : Nat} {v : Value} : W (pj lw) 1 36 L (v :: .ref a :: S) k n H Q ↔ ((isOw H a = true ∧ okv (.array .int) v = true) ∧ W (pj lw) 1 39 L S k n (wr H a 25 v) Q) := W_putf (rfl : (pj lw).1 1 36 = some (.putfield 20, 3, 25))
theorem w1_39 {x : Nat} : W (pj lw) 1 39 (.val (.ref x) :: L) S k n H Q ↔ W (pj lw) 1 40 (.val (.ref x) :: L) (.ref x :: S) k n H Q := W_s (rfl : (pj lw).1 1 39 = some (.aload_n 0, 1, 0)) rfl rfl rfl
theorem w1_40 : W (pj lw) 1 40 L S k n H Q ↔ W (pj lw) 1 43 L (.int 384 :: S) k n H Q := W_s (rfl : (pj lw).1 1 40 = some (.sipush 384, 3, 0)) rfl rfl rfl
theorem w1_43 : W (pj lw) 1 43 L (.int 384 :: S) k n H Q ↔ ((k + 1 ≤ 16 ∧ n + 384 ≤ 3876) ∧ W (pj lw) 1 45 L (.ref H.1 :: S) (k + 1) (n + 384) (mkA .boolean 384 H) Q) := W_newarr' (rfl : (pj lw).1 1 43 = some (.newarray .boolean, 2, 0)) rfl (by decide) (by decide)
theorem w1_45 {a : Nat} {v : Value} : W (pj lw) 1 45 L (v :: .ref a :: S) k n H Q ↔ ((isOw H a = true ∧ okv (.array .boolean) v = true) ∧ W (pj lw) 1 48 L S k n (wr H a 26 v) Q) := W_putf (rfl : (pj lw).1 1 45 = some (.putfield 23, 3, 26))
theorem w1_48 {x : Nat} : W (pj lw) 1 48 (.val (.ref x) :: L) S k n H Q ↔ W (pj lw) 1 49 (.val (.ref x) :: L) (.ref x :: S) k n H Q := W_s (rfl : (pj lw).1 1 48 = some (.aload_n 0, 1, 0)) rfl rfl rfl
theorem w1_49 : W (pj lw) 1 49 L S k n H Q ↔ W (pj lw) 1 52 L (.int 384 :: S) k n H Q := W_s (rfl : (pj lw).1 1 49 = some (.sipush 384, 3, 0)) rfl rfl rfl
theorem w1_52 : W (pj lw) 1 52 L (.int 384 :: S) k n H Q ↔ ((k + 1 ≤ 16 ∧ n + 384 ≤ 3876) ∧ W (pj lw) 1 54 L (.ref H.1 :: S) (k + 1) (n + 384) (mkA .boolean 384 H) Q) := W_newarr' (rfl : (pj lw).1 1 52 = some (.newarray .boolean, 2, 0)) rfl (by decide) (by decide)
theorem w1_54 {a : Nat} {v : Value} : W (pj lw) 1 54 L (v :: .ref a :: S) k n H Q ↔ ((isOw H a = true ∧ okv (.array .boolean) v = true) ∧ W (pj lw) 1 57 L S k n (wr H a 27 v) Q) := W_putf (rfl : (pj lw).1 1 54 = some (.putfield 26, 3, 27))
theorem w1_57 {x : Nat} : W (pj lw) 1 57 (.val (.ref x) :: L) S k n H Q ↔ W (pj lw) 1 58 (.val (.ref x) :: L) (.ref x :: S) k n H Q := W_s (rfl : (pj lw).1 1 57 = some (.aload_n 0, 1, 0)) rfl rfl rfl
theorem w1_58 : W (pj lw) 1 58 L S k n H Q ↔ W (pj lw) 1 61 L (.int 384 :: S) k n H Q := W_s (rfl : (pj lw).1 1 58 = some (.sipush 384, 3, 0)) rfl rfl rfl
theorem w1_61 : W (pj lw) 1 61 L (.int 384 :: S) k n H Q ↔ ((k + 1 ≤ 16 ∧ n + 384 ≤ 3876) ∧ W (pj lw) 1 63 L (.ref H.1 :: S) (k + 1) (n + 384) (mkA .int 384 H) Q) := W_newarr' (rfl : (pj lw).1 1 61 = some (.newarray .int, 2, 0)) rfl (by decide) (by decide)
theorem w1_63 {a : Nat} {v : Value} : W (pj lw) 1 63 L (v :: .ref a :: S) k n H Q ↔ ((isOw H a = true ∧ okv (.array .int) v = true) ∧ W (pj lw) 1 66 L S k n (wr H a 28 v) Q) := W_putf (rfl : (pj lw).1 1 63 = some (.putfield 29, 3, 28))
theorem w1_66 {x : Nat} : W (pj lw) 1 66 (.val (.ref x) :: L) S k n H Q ↔ W (pj lw) 1 67 (.val (.ref x) :: L) (.ref x :: S) k n H Q := W_s (rfl : (pj lw).1 1 66 = some (.aload_n 0, 1, 0)) rfl rfl rfl
theorem w1_67 : W (pj lw) 1 67 L S k n H Q ↔ W (pj lw) 1 70 L (.int 384 :: S) k n H Q := W_s (rfl : (pj lw).1 1 67 = some (.sipush 384, 3, 0)) rfl rfl rfl
theorem w1_70 : W (pj lw) 1 70 L (.int 384 :: S) k n H Q ↔ ((k + 1 ≤ 16 ∧ n + 384 ≤ 3876) ∧ W (pj lw) 1 72 L (.ref H.1 :: S) (k + 1) (n + 384) (mkA .int 384 H) Q) := W_newarr' (rfl : (pj lw).1 1 70 = some (.newarray .int, 2, 0)) rfl (by decide) (by decide)
theorem w1_72 {a : Nat} {v : Value} : W (pj lw) 1 72 L (v :: .ref a :: S) k n H Q ↔ ((isOw H a = true ∧ okv (.array .int) v = true) ∧ W (pj lw) 1 75 L S k n (wr H a 29 v) Q) := W_putf (rfl : (pj lw).1 1 72 = some (.putfield 32, 3, 29))
theorem w1_75 {x : Nat} : W (pj lw) 1 75 (.val (.ref x) :: L) S k n H Q ↔ W (pj lw) 1 76 (.val (.ref x) :: L) (.ref x :: S) k n H Q := W_s (rfl : (pj lw).1 1 75 = some (.aload_n 0, 1, 0)) rfl rfl rfl
theorem w1_76 : W (pj lw) 1 76 L S k n H Q ↔ W (pj lw) 1 79 L (.int 384 :: S) k n H Q := W_s (rfl : (pj lw).1 1 76 = some (.sipush 384, 3, 0)) rfl rfl rfl
theorem w1_79 : W (pj lw) 1 79 L (.int 384 :: S) k n H Q ↔ ((k + 1 ≤ 16 ∧ n + 384 ≤ 3876) ∧ W (pj lw) 1 81 L (.ref H.1 :: S) (k + 1) (n + 384) (mkA .boolean 384 H) Q) := W_newarr' (rfl : (pj lw).1 1 79 = some (.newarray .boolean, 2, 0)) rfl (by decide) (by decide)
theorem w1_81 {a : Nat} {v : Value} : W (pj lw) 1 81 L (v :: .ref a :: S) k n H Q ↔ ((isOw H a = true ∧ okv (.array .boolean) v = true) ∧ W (pj lw) 1 84 L S k n (wr H a 30 v) Q) := W_putf (rfl : (pj lw).1 1 81 = some (.putfield 35, 3, 30))
theorem w1_84 {x : Nat} : W (pj lw) 1 84 (.val (.ref x) :: L) S k n H Q ↔ W (pj lw) 1 85 (.val (.ref x) :: L) (.ref x :: S) k n H Q := W_s (rfl : (pj lw).1 1 84 = some (.aload_n 0, 1, 0)) rfl rfl rfl
theorem w1_85 : W (pj lw) 1 85 L S k n H Q ↔ W (pj lw) 1 88 L (.int 384 :: S) k n H Q := W_s (rfl : (pj lw).1 1 85 = some (.sipush 384, 3, 0)) rfl rfl rfl
theorem w1_88 : W (pj lw) 1 88 L (.int 384 :: S) k n H Q ↔ ((k + 1 ≤ 16 ∧ n + 384 ≤ 3876) ∧ W (pj lw) 1 90 L (.ref H.1 :: S) (k + 1) (n + 384) (mkA .int 384 H) Q) := W_newarr' (rfl : (pj lw).1 1 88 = some (.newarray .int, 2, 0)) rfl (by decide) (by decide)
theorem w1_90 {a : Nat} {v : Value} : W (pj lw) 1 90 L (v :: .ref a :: S) k n H Q ↔ ((isOw H a = true ∧ okv (.array .int) v = true) ∧ W (pj lw) 1 93 L S k n (wr H a 31 v) Q) := W_putf (rfl : (pj lw).1 1 90 = some (.putfield 38, 3, 31))
theorem w1_93 {x : Nat} : W (pj lw) 1 93 (.val (.ref x) :: L) S k n H Q ↔ W (pj lw) 1 94 (.val (.ref x) :: L) (.ref x :: S) k n H Q := W_s (rfl : (pj lw).1 1 93 = some (.aload_n 0, 1, 0)) rfl rfl rfl
theorem w1_94 : W (pj lw) 1 94 L S k n H Q ↔ W (pj lw) 1 97 L (.int 384 :: S) k n H Q := W_s (rfl : (pj lw).1 1 94 = some (.sipush 384, 3, 0)) rfl rfl rfl
theorem w1_97 : W (pj lw) 1 97 L (.int 384 :: S) k n H Q ↔ ((k + 1 ≤ 16 ∧ n + 384 ≤ 3876) ∧ W (pj lw) 1 99 L (.ref H.1 :: S) (k + 1) (n + 384) (mkA .int 384 H) Q) := W_newarr' (rfl : (pj lw).1 1 97 = some (.newarray .int, 2, 0)) rfl (by decide) (by decide)
theorem w1_99 {a : Nat} {v : Value} : W (pj lw) 1 99 L (v :: .ref a :: S) k n H Q ↔ ((isOw H a = true ∧ okv (.array .int) v = true) ∧ W (pj lw) 1 102 L S k n (wr H a 32 v) Q) := W_putf (rfl : (pj lw).1 1 99 = some (.putfield 41, 3, 32))
theorem w1_102 {x : Nat} : W (pj lw) 1 102 (.val (.ref x) :: L) S k n H Q ↔ W (pj lw) 1 103 (.val (.ref x) :: L) (.ref x :: S) k n H Q := W_s (rfl : (pj lw).1 1 102 = some (.aload_n 0, 1, 0)) rfl rfl rfl
theorem w1_103 : W (pj lw) 1 103 L S k n H Q ↔ W (pj lw) 1 104 L (.int 4 :: S) k n H Q := W_s (rfl : (pj lw).1 1 103 = some (.iconst 4, 1, 0)) rfl rfl rfl
theorem w1_104 : W (pj lw) 1 104 L (.int 4 :: S) k n H Q ↔ ((k + 1 ≤ 16 ∧ n + 4 ≤ 3876) ∧ W (pj lw) 1 106 L (.ref H.1 :: S) (k + 1) (n + 4) (mkA .int 4 H) Q) := W_newarr' (rfl : (pj lw).1 1 104 = some (.newarray .int, 2, 0)) rfl (by decide) (by decide)
theorem w1_106 {a : Nat} {v : Value} : W (pj lw) 1 106 L (v :: .ref a :: S) k n H Q ↔ ((isOw H a = true ∧ okv (.array .int) v = true) ∧ W (pj lw) 1 109 L S k n (wr H a 33 v) Q) := W_putf (rfl : (pj lw).1 1 106 = some (.putfield 44, 3, 33))
theorem w1_109 {x : Nat} : W (pj lw) 1 109 (.val (.ref x) :: L) S k n H Q ↔ W (pj lw) 1 110 (.val (.ref x) :: L) (.ref x :: S) k n H Q := W_s (rfl : (pj lw).1 1 109 = some (.aload_n 0, 1, 0)) rfl rfl rfl
theorem w1_110 : W (pj lw) 1 110 L S k n H Q ↔ W (pj lw) 1 111 L (.int 4 :: S) k n H Q := W_s (rfl : (pj lw).1 1 110 = some (.iconst 4, 1, 0)) rfl rfl rfl
theorem w1_111 : W (pj lw) 1 111 L (.int 4 :: S) k n H Q ↔ ((k + 1 ≤ 16 ∧ n + 4 ≤ 3876) ∧ W (pj lw) 1 113 L (.ref H.1 :: S) (k + 1) (n + 4) (mkA .long 4 H) Q) := W_newarr' (rfl : (pj lw).1 1 111 = some (.newarray .long, 2, 0)) rfl (by decide) (by decide)
theorem w1_113 {a : Nat} {v : Value} : W (pj lw) 1 113 L (v :: .ref a :: S) k n H Q ↔ ((isOw H a = true ∧ okv (.array .long) v = true) ∧ W (pj lw) 1 116 L S k n (wr H a 34 v) Q) := W_putf (rfl : (pj lw).1 1 113 = some (.putfield 47, 3, 34))
theorem w1_116 {x : Nat} : W (pj lw) 1 116 (.val (.ref x) :: L) S k n H Q ↔ W (pj lw) 1 117 (.val (.ref x) :: L) (.ref x :: S) k n H Q := W_s (rfl : (pj lw).1 1 116 = some (.aload_n 0, 1, 0)) rfl rfl rfl
theorem w1_117 : W (pj lw) 1 117 L S k n H Q ↔ W (pj lw) 1 118 L (.int 4 :: S) k n H Q := W_s (rfl : (pj lw).1 1 117 = some (.iconst 4, 1, 0)) rfl rfl rfl
theorem w1_118 : W (pj lw) 1 118 L (.int 4 :: S) k n H Q ↔ ((k + 1 ≤ 16 ∧ n + 4 ≤ 3876) ∧ W (pj lw) 1 120 L (.ref H.1 :: S) (k + 1) (n + 4) (mkA .long 4 H) Q) := W_newarr' (rfl : (pj lw).1 1 118 = some (.newarray .long, 2, 0)) rfl (by decide) (by decide)
theorem w1_120 {a : Nat} {v : Value} : W (pj lw) 1 120 L (v :: .ref a :: S) k n H Q ↔ ((isOw H a = true ∧ okv (.array .long) v = true) ∧ W (pj lw) 1 123 L S k n (wr H a 35 v) Q) := W_putf (rfl : (pj lw).1 1 120 = some (.putfield 51, 3, 35))
theorem w1_123 {x : Nat} : W (pj lw) 1 123 (.val (.ref x) :: L) S k n H Q ↔ W (pj lw) 1 124 (.val (.ref x) :: L) (.ref x :: S) k n H Q := W_s (rfl : (pj lw).1 1 123 = some (.aload_n 0, 1, 0)) rfl rfl rfl
theorem w1_124 : W (pj lw) 1 124 L S k n H Q ↔ W (pj lw) 1 125 L (.int 4 :: S) k n H Q := W_s (rfl : (pj lw).1 1 124 = some (.iconst 4, 1, 0)) rfl rfl rfl
theorem w1_125 : W (pj lw) 1 125 L (.int 4 :: S) k n H Q ↔ ((k + 1 ≤ 16 ∧ n + 4 ≤ 3876) ∧ W (pj lw) 1 127 L (.ref H.1 :: S) (k + 1) (n + 4) (mkA .long 4 H) Q) := W_newarr' (rfl : (pj lw).1 1 125 = some (.newarray .long, 2, 0)) rfl (by decide) (by decide)
theorem w1_127 {a : Nat} {v : Value} : W (pj lw) 1 127 L (v :: .ref a :: S) k n H Q ↔ ((isOw H a = true ∧ okv (.array .long) v = true) ∧ W (pj lw) 1 130 L S k n (wr H a 36 v) Q) := W_putf (rfl : (pj lw).1 1 127 = some (.putfield 54, 3, 36))
theorem w1_130 {x : Nat} : W (pj lw) 1 130 (.val (.ref x) :: L) S k n H Q ↔ W (pj lw) 1 131 (.val (.ref x) :: L) (.ref x :: S) k n H Q := W_s (rfl : (pj lw).1 1 130 = some (.aload_n 0, 1, 0)) rfl rfl rfl
theorem w1_131 : W (pj lw) 1 131 L S k n H Q ↔ W (pj lw) 1 132 L (.int 4 :: S) k n H Q := W_s (rfl : (pj lw).1 1 131 = some (.iconst 4, 1, 0)) rfl rfl rfl
theorem w1_132 : W (pj lw) 1 132 L (.int 4 :: S) k n H Q ↔ ((k + 1 ≤ 16 ∧ n + 4 ≤ 3876) ∧ W (pj lw) 1 134 L (.ref H.1 :: S) (k + 1) (n + 4) (mkA .long 4 H) Q) := W_newarr' (rfl : (pj lw).1 1 132 = some (.newarray .long, 2, 0)) rfl (by decide) (by decide)
theorem w1_134 {a : Nat} {v : Value} : W (pj lw) 1 134 L (v :: .ref a :: S) k n H Q ↔ ((isOw H a = true ∧ okv (.array .long) v = true) ∧ W (pj lw) 1 137 L S k n (wr H a 37 v) Q) := W_putf (rfl : (pj lw).1 1 134 = some (.putfield 57, 3, 37))
theorem w1_137 {x : Nat} : W (pj lw) 1 137 (.val (.ref x) :: L) S k n H Q ↔ W (pj lw) 1 138 (.val (.ref x) :: L) (.ref x :: S) k n H Q := W_s (rfl : (pj lw).1 1 137 = some (.aload_n 0, 1, 0)) rfl rfl rfl
theorem w1_138 {x : Nat} : W (pj lw) 1 138 (.val (.ref x) :: L) S k n H Q ↔ W (pj lw) 1 139 (.val (.ref x) :: L) (.ref x :: S) k n H Q := W_s (rfl : (pj lw).1 1 138 = some (.aload_n 0, 1, 0)) rfl rfl rfl
theorem w1_139 {x : Int32} {l0 : Slot} : W (pj lw) 1 139 (l0 :: .val (.int x) :: L) S k n H Q ↔ W (pj lw) 1 140 (l0 :: .val (.int x) :: L) (.int x :: S) k n H Q := W_s (rfl : (pj lw).1 1 139 = some (.iload_n 1, 1, 0)) rfl rfl rfl
theorem w1_140 : W (pj lw) 1 140 L S k n H Q ↔ W (pj lw) 1 142 L (.int 8 :: S) k n H Q := W_s (rfl : (pj lw).1 1 140 = some (.bipush 8, 2, 0)) rfl rfl rfl
theorem w1_142 : W (pj lw) 1 142 L S k n H Q ↔ W (pj lw) 1 145 L (.int 128 :: S) k n H Q := W_s (rfl : (pj lw).1 1 142 = some (.sipush 128, 3, 0)) rfl rfl rfl
theorem w1_145 {a : Nat} {x0 : Int32} {x1 : Int32} {x2 : Int32} : W (pj lw) 1 145 L (.int x2 :: .int x1 :: .int x0 :: .ref a :: S) k n H Q ↔ ((isO H a = true ∧ cs S + (4 + 11) + 0 ≤ 16) ∧ Cl (pj lw) 11 [.ref a, .int x0, .int x1, .int x2] H (fun v H => W (pj lw) 1 148 L (v.toList ++ S) k n H Q)) := W_inst (as := [.int x0, .int x1, .int x2]) (rfl : (pj lw).1 1 145 = some (.invokevirtual 60, 3, 11)) rfl rfl rfl (Nat.le_of_ble_eq_true rfl) (Nat.le_of_ble_eq_true rfl) ⟨rfl, rfl⟩
theorem w1_148 {a : Nat} {v : Value} : W (pj lw) 1 148 L (v :: .ref a :: S) k n H Q ↔ ((isOw H a = true ∧ okv (.int) v = true) ∧ W (pj lw) 1 151 L S k n (wr H a 0 v) Q) := W_putf (rfl : (pj lw).1 1 148 = some (.putfield 64, 3, 0))
theorem w1_151 {x : Nat} : W (pj lw) 1 151 (.val (.ref x) :: L) S k n H Q ↔ W (pj lw) 1 152 (.val (.ref x) :: L) (.ref x :: S) k n H Q := W_s (rfl : (pj lw).1 1 151 = some (.aload_n 0, 1, 0)) rfl rfl rfl
theorem w1_152 {x : Nat} : W (pj lw) 1 152 (.val (.ref x) :: L) S k n H Q ↔ W (pj lw) 1 153 (.val (.ref x) :: L) (.ref x :: S) k n H Q := W_s (rfl : (pj lw).1 1 152 = some (.aload_n 0, 1, 0)) rfl rfl rfl
theorem w1_153 {x : Int32} {l0 l1 : Slot} : W (pj lw) 1 153 (l0 :: l1 :: .val (.int x) :: L) S k n H Q ↔ W (pj lw) 1 154 (l0 :: l1 :: .val (.int x) :: L) (.int x :: S) k n H Q := W_s (rfl : (pj lw).1 1 153 = some (.iload_n 2, 1, 0)) rfl rfl rfl
theorem w1_154 : W (pj lw) 1 154 L S k n H Q ↔ W (pj lw) 1 155 L (.int 2 :: S) k n H Q := W_s (rfl : (pj lw).1 1 154 = some (.iconst 2, 1, 0)) rfl rfl rfl
theorem w1_155 : W (pj lw) 1 155 L S k n H Q ↔ W (pj lw) 1 156 L (.int 3 :: S) k n H Q := W_s (rfl : (pj lw).1 1 155 = some (.iconst 3, 1, 0)) rfl rfl rfl
theorem w1_156 {a : Nat} {x0 : Int32} {x1 : Int32} {x2 : Int32} : W (pj lw) 1 156 L (.int x2 :: .int x1 :: .int x0 :: .ref a :: S) k n H Q ↔ ((isO H a = true ∧ cs S + (4 + 11) + 0 ≤ 16) ∧ Cl (pj lw) 11 [.ref a, .int x0, .int x1, .int x2] H (fun v H => W (pj lw) 1 159 L (v.toList ++ S) k n H Q)) := W_inst (as := [.int x0, .int x1, .int x2]) (rfl : (pj lw).1 1 156 = some (.invokevirtual 60, 3, 11)) rfl rfl rfl (Nat.le_of_ble_eq_true rfl) (Nat.le_of_ble_eq_true rfl) ⟨rfl, rfl⟩
theorem w1_159 {a : Nat} {v : Value} : W (pj lw) 1 159 L (v :: .ref a :: S) k n H Q ↔ ((isOw H a = true ∧ okv (.int) v = true) ∧ W (pj lw) 1 162 L S k n (wr H a 1 v) Q) := W_putf (rfl : (pj lw).1 1 159 = some (.putfield 68, 3, 1))
theorem w1_162 {x : Nat} : W (pj lw) 1 162 (.val (.ref x) :: L) S k n H Q ↔ W (pj lw) 1 163 (.val (.ref x) :: L) (.ref x :: S) k n H Q := W_s (rfl : (pj lw).1 1 162 = some (.aload_n 0, 1, 0)) rfl rfl rfl
theorem w1_163 {x : Nat} : W (pj lw) 1 163 (.val (.ref x) :: L) S k n H Q ↔ W (pj lw) 1 164 (.val (.ref x) :: L) (.ref x :: S) k n H Q := W_s (rfl : (pj lw).1 1 163 = some (.aload_n 0, 1, 0)) rfl rfl rfl
theorem w1_164 {x : Int32} {l0 l1 l2 : Slot} : W (pj lw) 1 164 (l0 :: l1 :: l2 :: .val (.int x) :: L) S k n H Q ↔ W (pj lw) 1 165 (l0 :: l1 :: l2 :: .val (.int x) :: L) (.int x :: S) k n H Q := W_s (rfl : (pj lw).1 1 164 = some (.iload_n 3, 1, 0)) rfl rfl rfl
theorem w1_165 : W (pj lw) 1 165 L S k n H Q ↔ W (pj lw) 1 166 L (.int 1 :: S) k n H Q := W_s (rfl : (pj lw).1 1 165 = some (.iconst 1, 1, 0)) rfl rfl rfl
theorem w1_166 : W (pj lw) 1 166 L S k n H Q ↔ W (pj lw) 1 167 L (.int 5 :: S) k n H Q := W_s (rfl : (pj lw).1 1 166 = some (.iconst 5, 1, 0)) rfl rfl rfl
theorem w1_167 {a : Nat} {x0 : Int32} {x1 : Int32} {x2 : Int32} : W (pj lw) 1 167 L (.int x2 :: .int x1 :: .int x0 :: .ref a :: S) k n H Q ↔ ((isO H a = true ∧ cs S + (4 + 11) + 0 ≤ 16) ∧ Cl (pj lw) 11 [.ref a, .int x0, .int x1, .int x2] H (fun v H => W (pj lw) 1 170 L (v.toList ++ S) k n H Q)) := W_inst (as := [.int x0, .int x1, .int x2]) (rfl : (pj lw).1 1 167 = some (.invokevirtual 60, 3, 11)) rfl rfl rfl (Nat.le_of_ble_eq_true rfl) (Nat.le_of_ble_eq_true rfl) ⟨rfl, rfl⟩
theorem w1_170 {a : Nat} {v : Value} : W (pj lw) 1 170 L (v :: .ref a :: S) k n H Q ↔ ((isOw H a = true ∧ okv (.int) v = true) ∧ W (pj lw) 1 173 L S k n (wr H a 2 v) Q) := W_putf (rfl : (pj lw).1 1 170 = some (.putfield 71, 3, 2))
theorem w1_173 {x : Nat} : W (pj lw) 1 173 (.val (.ref x) :: L) S k n H Q ↔ W (pj lw) 1 174 (.val (.ref x) :: L) (.ref x :: S) k n H Q := W_s (rfl : (pj lw).1 1 173 = some (.aload_n 0, 1, 0)) rfl rfl rfl
theorem w1_174 {x : Nat} : W (pj lw) 1 174 (.val (.ref x) :: L) S k n H Q ↔ W (pj lw) 1 175 (.val (.ref x) :: L) (.ref x :: S) k n H Q := W_s (rfl : (pj lw).1 1 174 = some (.aload_n 0, 1, 0)) rfl rfl rfl
theorem w1_175 {x : Int32} {l0 l1 l2 l3 : Slot} : W (pj lw) 1 175 (l0 :: l1 :: l2 :: l3 :: .val (.int x) :: L) S k n H Q ↔ W (pj lw) 1 177 (l0 :: l1 :: l2 :: l3 :: .val (.int x) :: L) (.int x :: S) k n H Q := W_s (rfl : (pj lw).1 1 175 = some (.iload 4, 2, 0)) rfl rfl rfl
theorem w1_177 : W (pj lw) 1 177 L S k n H Q ↔ W (pj lw) 1 178 L (.int 0 :: S) k n H Q := W_s (rfl : (pj lw).1 1 177 = some (.iconst 0, 1, 0)) rfl rfl rfl
theorem w1_178 : W (pj lw) 1 178 L S k n H Q ↔ W (pj lw) 1 180 L (.int 65535 :: S) k n H Q := W_s (rfl : (pj lw).1 1 178 = some (.ldc 74, 2, 65535)) rfl rfl rfl
theorem w1_180 {a : Nat} {x0 : Int32} {x1 : Int32} {x2 : Int32} : W (pj lw) 1 180 L (.int x2 :: .int x1 :: .int x0 :: .ref a :: S) k n H Q ↔ ((isO H a = true ∧ cs S + (4 + 11) + 0 ≤ 16) ∧ Cl (pj lw) 11 [.ref a, .int x0, .int x1, .int x2] H (fun v H => W (pj lw) 1 183 L (v.toList ++ S) k n H Q)) := W_inst (as := [.int x0, .int x1, .int x2]) (rfl : (pj lw).1 1 180 = some (.invokevirtual 60, 3, 11)) rfl rfl rfl (Nat.le_of_ble_eq_true rfl) (Nat.le_of_ble_eq_true rfl) ⟨rfl, rfl⟩
theorem w1_183 {a : Nat} {v : Value} : W (pj lw) 1 183 L (v :: .ref a :: S) k n H Q ↔ ((isOw H a = true ∧ okv (.int) v = true) ∧ W (pj lw) 1 186 L S k n (wr H a 3 v) Q) := W_putf (rfl : (pj lw).1 1 183 = some (.putfield 75, 3, 3))
theorem w1_186 {x : Nat} : W (pj lw) 1 186 (.val (.ref x) :: L) S k n H Q ↔ W (pj lw) 1 187 (.val (.ref x) :: L) (.ref x :: S) k n H Q := W_s (rfl : (pj lw).1 1 186 = some (.aload_n 0, 1, 0)) rfl rfl rfl
theorem w1_187 : W (pj lw) 1 187 L S k n H Q ↔ W (pj lw) 1 188 L (.int (-1) :: S) k n H Q := W_s (rfl : (pj lw).1 1 187 = some (.iconst (-1), 1, 0)) rfl rfl rfl
theorem w1_188 {a : Nat} {v : Value} : W (pj lw) 1 188 L (v :: .ref a :: S) k n H Q ↔ ((isOw H a = true ∧ okv (.int) v = true) ∧ W (pj lw) 1 191 L S k n (wr H a 4 v) Q) := W_putf (rfl : (pj lw).1 1 188 = some (.putfield 78, 3, 4))
theorem w1_191 {x : Nat} : W (pj lw) 1 191 (.val (.ref x) :: L) S k n H Q ↔ W (pj lw) 1 192 (.val (.ref x) :: L) (.ref x :: S) k n H Q := W_s (rfl : (pj lw).1 1 191 = some (.aload_n 0, 1, 0)) rfl rfl rfl
theorem w1_192 : W (pj lw) 1 192 L S k n H Q ↔ W (pj lw) 1 193 L (.int (-1) :: S) k n H Q := W_s (rfl : (pj lw).1 1 192 = some (.iconst (-1), 1, 0)) rfl rfl rfl
theorem w1_193 {a : Nat} {v : Value} : W (pj lw) 1 193 L (v :: .ref a :: S) k n H Q ↔ ((isOw H a = true ∧ okv (.int) v = true) ∧ W (pj lw) 1 196 L S k n (wr H a 7 v) Q) := W_putf (rfl : (pj lw).1 1 193 = some (.putfield 81, 3, 7))
theorem w1_196 {x : Nat} : W (pj lw) 1 196 (.val (.ref x) :: L) S k n H Q ↔ W (pj lw) 1 197 (.val (.ref x) :: L) (.ref x :: S) k n H Q := W_s (rfl : (pj lw).1 1 196 = some (.aload_n 0, 1, 0)) rfl rfl rfl
theorem w1_197 : W (pj lw) 1 197 L S k n H Q ↔ W (pj lw) 1 198 L (.int (-1) :: S) k n H Q := W_s (rfl : (pj lw).1 1 197 = some (.iconst (-1), 1, 0)) rfl rfl rfl
theorem w1_198 {a : Nat} {v : Value} : W (pj lw) 1 198 L (v :: .ref a :: S) k n H Q ↔ ((isOw H a = true ∧ okv (.int) v = true) ∧ W (pj lw) 1 201 L S k n (wr H a 8 v) Q) := W_putf (rfl : (pj lw).1 1 198 = some (.putfield 84, 3, 8))
theorem w1_201 : W (pj lw) 1 201 L S k n H Q ↔ W (pj lw) 1 202 L (.int 0 :: S) k n H Q := W_s (rfl : (pj lw).1 1 201 = some (.iconst 0, 1, 0)) rfl rfl rfl
theorem w1_202 {x : Int32} {l0 l1 l2 l3 l4 : Slot} : W (pj lw) 1 202 (l0 :: l1 :: l2 :: l3 :: l4 :: .unset :: L) (.int x :: S) k n H Q ↔ W (pj lw) 1 204 (l0 :: l1 :: l2 :: l3 :: l4 :: .val (.int x) :: L) S k n H Q := W_ist (rfl : (pj lw).1 1 202 = some (.istore 5, 2, 0)) rfl rfl
theorem w1_204 {x : Int32} {l0 l1 l2 l3 l4 : Slot} : W (pj lw) 1 204 (l0 :: l1 :: l2 :: l3 :: l4 :: .val (.int x) :: L) S k n H Q ↔ W (pj lw) 1 206 (l0 :: l1 :: l2 :: l3 :: l4 :: .val (.int x) :: L) (.int x :: S) k n H Q := W_s (rfl : (pj lw).1 1 204 = some (.iload 5, 2, 0)) rfl rfl rfl
theorem w1_206 : W (pj lw) 1 206 L S k n H Q ↔ W (pj lw) 1 207 L (.int 4 :: S) k n H Q := W_s (rfl : (pj lw).1 1 206 = some (.iconst 4, 1, 0)) rfl rfl rfl
theorem w1_207 {x y : Int32} : W (pj lw) 1 207 L (.int y :: .int x :: S) k n H Q ↔ (if x < y then W (pj lw) 1 210 L S k n H Q else W (pj lw) 1 224 L S k n H Q) := W_icmp_ge (rfl : (pj lw).1 1 207 = some (.if_icmp .ge 17, 3, 0)) rfl
theorem w1_210 {x : Nat} : W (pj lw) 1 210 (.val (.ref x) :: L) S k n H Q ↔ W (pj lw) 1 211 (.val (.ref x) :: L) (.ref x :: S) k n H Q := W_s (rfl : (pj lw).1 1 210 = some (.aload_n 0, 1, 0)) rfl rfl rfl
theorem w1_211 {a : Nat} : W (pj lw) 1 211 L (.ref a :: S) k n H Q ↔ (isO H a = true ∧ W (pj lw) 1 214 L (fld H a 33 :: S) k n H Q) := W_getf (rfl : (pj lw).1 1 211 = some (.getfield 44, 3, 33))
theorem w1_214 {x : Int32} {l0 l1 l2 l3 l4 : Slot} : W (pj lw) 1 214 (l0 :: l1 :: l2 :: l3 :: l4 :: .val (.int x) :: L) S k n H Q ↔ W (pj lw) 1 216 (l0 :: l1 :: l2 :: l3 :: l4 :: .val (.int x) :: L) (.int x :: S) k n H Q := W_s (rfl : (pj lw).1 1 214 = some (.iload 5, 2, 0)) rfl rfl rfl
theorem w1_216 : W (pj lw) 1 216 L S k n H Q ↔ W (pj lw) 1 217 L (.int (-1) :: S) k n H Q := W_s (rfl : (pj lw).1 1 216 = some (.iconst (-1), 1, 0)) rfl rfl rfl
theorem w1_217 {x i : Int32} {a : Nat} : W (pj lw) 1 217 L (.int x :: .int i :: .ref a :: S) k n H Q ↔ (inAw H a .int i = true ∧ W (pj lw) 1 218 L S k n (wr H a i.toNatClampNeg (.int x)) Q) := W_iastore (rfl : (pj lw).1 1 217 = some (.iastore, 1, 0))
theorem w1_218 {x : Int32} {l0 l1 l2 l3 l4 : Slot} : W (pj lw) 1 218 (l0 :: l1 :: l2 :: l3 :: l4 :: .val (.int x) :: L) S k n H Q ↔ W (pj lw) 1 221 (l0 :: l1 :: l2 :: l3 :: l4 :: .val (.int (x + 1)) :: L) S k n H Q := W_s (rfl : (pj lw).1 1 218 = some (.iinc 5 1, 3, 0)) rfl rfl rfl
theorem w1_221 : W (pj lw) 1 221 L S k n H Q ↔ W (pj lw) 1 204 L S k n H Q := W_goto (rfl : (pj lw).1 1 221 = some (.goto (-17), 3, 0)) rfl
theorem w1_224 : W (pj lw) 1 224 L [] k n H Q ↔ Q none H := W_r (rfl : (pj lw).1 1 224 = some (.return_, 1, 0)) rfl
theorem c2 {x0 : Nat} {x1 : Int32} {x2 : Int32} {x3 : Int32} {x4 : Int32} : Cl (pj lw) 2 [.ref x0, .int x1, .int x2, .int x3, .int x4] H Q ↔ W (pj lw) 2 0 [.val (.ref x0), .val (.int x1), .val (.int x2), .val (.int x3), .val (.int x4)] [] 0 0 H Q := cl_unf rfl
theorem w2_0 {x : Int32} {l0 : Slot} : W (pj lw) 2 0 (l0 :: .val (.int x) :: L) S k n H Q ↔ W (pj lw) 2 1 (l0 :: .val (.int x) :: L) (.int x :: S) k n H Q := W_s (rfl : (pj lw).1 2 0 = some (.iload_n 1, 1, 0)) rfl rfl rfl
theorem w2_1 : W (pj lw) 2 1 L S k n H Q ↔ W (pj lw) 2 2 L (.int 1 :: S) k n H Q := W_s (rfl : (pj lw).1 2 1 = some (.iconst 1, 1, 0)) rfl rfl rfl
theorem w2_2 {x y : Int32} : W (pj lw) 2 2 L (.int y :: .int x :: S) k n H Q ↔ (if x = y then W (pj lw) 2 5 L S k n H Q else W (pj lw) 2 14 L S k n H Q) := W_icmp_ne (rfl : (pj lw).1 2 2 = some (.if_icmp .ne 12, 3, 0)) rfl
theorem w2_5 {x : Nat} : W (pj lw) 2 5 (.val (.ref x) :: L) S k n H Q ↔ W (pj lw) 2 6 (.val (.ref x) :: L) (.ref x :: S) k n H Q := W_s (rfl : (pj lw).1 2 5 = some (.aload_n 0, 1, 0)) rfl rfl rfl
theorem w2_6 {x : Int32} {l0 l1 : Slot} : W (pj lw) 2 6 (l0 :: l1 :: .val (.int x) :: L) S k n H Q ↔ W (pj lw) 2 7 (l0 :: l1 :: .val (.int x) :: L) (.int x :: S) k n H Q := W_s (rfl : (pj lw).1 2 6 = some (.iload_n 2, 1, 0)) rfl rfl rfl
theorem w2_7 {x : Int32} {l0 l1 l2 : Slot} : W (pj lw) 2 7 (l0 :: l1 :: l2 :: .val (.int x) :: L) S k n H Q ↔ W (pj lw) 2 8 (l0 :: l1 :: l2 :: .val (.int x) :: L) (.int x :: S) k n H Q := W_s (rfl : (pj lw).1 2 7 = some (.iload_n 3, 1, 0)) rfl rfl rfl
theorem w2_8 {x : Int32} {l0 l1 l2 l3 : Slot} : W (pj lw) 2 8 (l0 :: l1 :: l2 :: l3 :: .val (.int x) :: L) S k n H Q ↔ W (pj lw) 2 10 (l0 :: l1 :: l2 :: l3 :: .val (.int x) :: L) (.int x :: S) k n H Q := W_s (rfl : (pj lw).1 2 8 = some (.iload 4, 2, 0)) rfl rfl rfl
theorem w2_10 {a : Nat} {x0 : Int32} {x1 : Int32} {x2 : Int32} : W (pj lw) 2 10 L (.int x2 :: .int x1 :: .int x0 :: .ref a :: S) k n H Q ↔ ((isO H a = true ∧ cs S + (4 + 11) + 0 ≤ 15) ∧ Cl (pj lw) 3 [.ref a, .int x0, .int x1, .int x2] H (fun v H => W (pj lw) 2 13 L (v.toList ++ S) k n H Q)) := W_inst (as := [.int x0, .int x1, .int x2]) (rfl : (pj lw).1 2 10 = some (.invokevirtual 87, 3, 3)) rfl rfl rfl (Nat.le_of_ble_eq_true rfl) (Nat.le_of_ble_eq_true rfl) ⟨rfl, rfl⟩
theorem w2_13 {x : Int32} : W (pj lw) 2 13 L (.int x :: S) k n H Q ↔ ((x = 0 ∨ x = 1) ∧ Q (some (.int x)) H) := W_rz (rfl : (pj lw).1 2 13 = some (.ireturn, 1, 0)) rfl
theorem w2_14 {x : Int32} {l0 : Slot} : W (pj lw) 2 14 (l0 :: .val (.int x) :: L) S k n H Q ↔ W (pj lw) 2 15 (l0 :: .val (.int x) :: L) (.int x :: S) k n H Q := W_s (rfl : (pj lw).1 2 14 = some (.iload_n 1, 1, 0)) rfl rfl rfl
theorem w2_15 : W (pj lw) 2 15 L S k n H Q ↔ W (pj lw) 2 16 L (.int 2 :: S) k n H Q := W_s (rfl : (pj lw).1 2 15 = some (.iconst 2, 1, 0)) rfl rfl rfl
theorem w2_16 {x y : Int32} : W (pj lw) 2 16 L (.int y :: .int x :: S) k n H Q ↔ (if x = y then W (pj lw) 2 19 L S k n H Q else W (pj lw) 2 41 L S k n H Q) := W_icmp_ne (rfl : (pj lw).1 2 16 = some (.if_icmp .ne 25, 3, 0)) rfl
theorem w2_19 {x : Int32} {l0 l1 : Slot} : W (pj lw) 2 19 (l0 :: l1 :: .val (.int x) :: L) S k n H Q ↔ W (pj lw) 2 20 (l0 :: l1 :: .val (.int x) :: L) (.int x :: S) k n H Q := W_s (rfl : (pj lw).1 2 19 = some (.iload_n 2, 1, 0)) rfl rfl rfl
theorem w2_20 : W (pj lw) 2 20 L S k n H Q ↔ W (pj lw) 2 21 L (.int (-1) :: S) k n H Q := W_s (rfl : (pj lw).1 2 20 = some (.iconst (-1), 1, 0)) rfl rfl rfl
theorem w2_21 {x y : Int32} : W (pj lw) 2 21 L (.int y :: .int x :: S) k n H Q ↔ (if x < y then W (pj lw) 2 32 L S k n H Q else W (pj lw) 2 24 L S k n H Q) := W_icmp_lt (rfl : (pj lw).1 2 21 = some (.if_icmp .lt 11, 3, 0)) rfl
theorem w2_24 {x : Int32} {l0 l1 : Slot} : W (pj lw) 2 24 (l0 :: l1 :: .val (.int x) :: L) S k n H Q ↔ W (pj lw) 2 25 (l0 :: l1 :: .val (.int x) :: L) (.int x :: S) k n H Q := W_s (rfl : (pj lw).1 2 24 = some (.iload_n 2, 1, 0)) rfl rfl rfl
theorem w2_25 {x : Nat} : W (pj lw) 2 25 (.val (.ref x) :: L) S k n H Q ↔ W (pj lw) 2 26 (.val (.ref x) :: L) (.ref x :: S) k n H Q := W_s (rfl : (pj lw).1 2 25 = some (.aload_n 0, 1, 0)) rfl rfl rfl
theorem w2_26 {a : Nat} : W (pj lw) 2 26 L (.ref a :: S) k n H Q ↔ (isO H a = true ∧ W (pj lw) 2 29 L (fld H a 0 :: S) k n H Q) := W_getf (rfl : (pj lw).1 2 26 = some (.getfield 64, 3, 0))
theorem w2_29 {x y : Int32} : W (pj lw) 2 29 L (.int y :: .int x :: S) k n H Q ↔ (if x < y then W (pj lw) 2 34 L S k n H Q else W (pj lw) 2 32 L S k n H Q) := W_icmp_lt (rfl : (pj lw).1 2 29 = some (.if_icmp .lt 5, 3, 0)) rfl
theorem w2_32 : W (pj lw) 2 32 L S k n H Q ↔ W (pj lw) 2 33 L (.int 0 :: S) k n H Q := W_s (rfl : (pj lw).1 2 32 = some (.iconst 0, 1, 0)) rfl rfl rfl
theorem w2_33 {x : Int32} : W (pj lw) 2 33 L (.int x :: S) k n H Q ↔ ((x = 0 ∨ x = 1) ∧ Q (some (.int x)) H) := W_rz (rfl : (pj lw).1 2 33 = some (.ireturn, 1, 0)) rfl
theorem w2_34 {x : Nat} : W (pj lw) 2 34 (.val (.ref x) :: L) S k n H Q ↔ W (pj lw) 2 35 (.val (.ref x) :: L) (.ref x :: S) k n H Q := W_s (rfl : (pj lw).1 2 34 = some (.aload_n 0, 1, 0)) rfl rfl rfl
theorem w2_35 {x : Int32} {l0 l1 : Slot} : W (pj lw) 2 35 (l0 :: l1 :: .val (.int x) :: L) S k n H Q ↔ W (pj lw) 2 36 (l0 :: l1 :: .val (.int x) :: L) (.int x :: S) k n H Q := W_s (rfl : (pj lw).1 2 35 = some (.iload_n 2, 1, 0)) rfl rfl rfl
theorem w2_36 {a : Nat} {v : Value} : W (pj lw) 2 36 L (v :: .ref a :: S) k n H Q ↔ ((isOw H a = true ∧ okv (.int) v = true) ∧ W (pj lw) 2 39 L S k n (wr H a 7 v) Q) := W_putf (rfl : (pj lw).1 2 36 = some (.putfield 81, 3, 7))
theorem w2_39 : W (pj lw) 2 39 L S k n H Q ↔ W (pj lw) 2 40 L (.int 1 :: S) k n H Q := W_s (rfl : (pj lw).1 2 39 = some (.iconst 1, 1, 0)) rfl rfl rfl
theorem w2_40 {x : Int32} : W (pj lw) 2 40 L (.int x :: S) k n H Q ↔ ((x = 0 ∨ x = 1) ∧ Q (some (.int x)) H) := W_rz (rfl : (pj lw).1 2 40 = some (.ireturn, 1, 0)) rfl
theorem w2_41 {x : Int32} {l0 : Slot} : W (pj lw) 2 41 (l0 :: .val (.int x) :: L) S k n H Q ↔ W (pj lw) 2 42 (l0 :: .val (.int x) :: L) (.int x :: S) k n H Q := W_s (rfl : (pj lw).1 2 41 = some (.iload_n 1, 1, 0)) rfl rfl rfl
theorem w2_42 : W (pj lw) 2 42 L S k n H Q ↔ W (pj lw) 2 43 L (.int 3 :: S) k n H Q := W_s (rfl : (pj lw).1 2 42 = some (.iconst 3, 1, 0)) rfl rfl rfl
theorem w2_43 {x y : Int32} : W (pj lw) 2 43 L (.int y :: .int x :: S) k n H Q ↔ (if x = y then W (pj lw) 2 46 L S k n H Q else W (pj lw) 2 68 L S k n H Q) := W_icmp_ne (rfl : (pj lw).1 2 43 = some (.if_icmp .ne 25, 3, 0)) rfl
theorem w2_46 {x : Int32} {l0 l1 : Slot} : W (pj lw) 2 46 (l0 :: l1 :: .val (.int x) :: L) S k n H Q ↔ W (pj lw) 2 47 (l0 :: l1 :: .val (.int x) :: L) (.int x :: S) k n H Q := W_s (rfl : (pj lw).1 2 46 = some (.iload_n 2, 1, 0)) rfl rfl rfl
theorem w2_47 : W (pj lw) 2 47 L S k n H Q ↔ W (pj lw) 2 48 L (.int (-1) :: S) k n H Q := W_s (rfl : (pj lw).1 2 47 = some (.iconst (-1), 1, 0)) rfl rfl rfl
theorem w2_48 {x y : Int32} : W (pj lw) 2 48 L (.int y :: .int x :: S) k n H Q ↔ (if x < y then W (pj lw) 2 59 L S k n H Q else W (pj lw) 2 51 L S k n H Q) := W_icmp_lt (rfl : (pj lw).1 2 48 = some (.if_icmp .lt 11, 3, 0)) rfl
theorem w2_51 {x : Int32} {l0 l1 : Slot} : W (pj lw) 2 51 (l0 :: l1 :: .val (.int x) :: L) S k n H Q ↔ W (pj lw) 2 52 (l0 :: l1 :: .val (.int x) :: L) (.int x :: S) k n H Q := W_s (rfl : (pj lw).1 2 51 = some (.iload_n 2, 1, 0)) rfl rfl rfl
theorem w2_52 {x : Nat} : W (pj lw) 2 52 (.val (.ref x) :: L) S k n H Q ↔ W (pj lw) 2 53 (.val (.ref x) :: L) (.ref x :: S) k n H Q := W_s (rfl : (pj lw).1 2 52 = some (.aload_n 0, 1, 0)) rfl rfl rfl
theorem w2_53 {a : Nat} : W (pj lw) 2 53 L (.ref a :: S) k n H Q ↔ (isO H a = true ∧ W (pj lw) 2 56 L (fld H a 0 :: S) k n H Q) := W_getf (rfl : (pj lw).1 2 53 = some (.getfield 64, 3, 0))
theorem w2_56 {x y : Int32} : W (pj lw) 2 56 L (.int y :: .int x :: S) k n H Q ↔ (if x < y then W (pj lw) 2 61 L S k n H Q else W (pj lw) 2 59 L S k n H Q) := W_icmp_lt (rfl : (pj lw).1 2 56 = some (.if_icmp .lt 5, 3, 0)) rfl
theorem w2_59 : W (pj lw) 2 59 L S k n H Q ↔ W (pj lw) 2 60 L (.int 0 :: S) k n H Q := W_s (rfl : (pj lw).1 2 59 = some (.iconst 0, 1, 0)) rfl rfl rfl
theorem w2_60 {x : Int32} : W (pj lw) 2 60 L (.int x :: S) k n H Q ↔ ((x = 0 ∨ x = 1) ∧ Q (some (.int x)) H) := W_rz (rfl : (pj lw).1 2 60 = some (.ireturn, 1, 0)) rfl
theorem w2_61 {x : Nat} : W (pj lw) 2 61 (.val (.ref x) :: L) S k n H Q ↔ W (pj lw) 2 62 (.val (.ref x) :: L) (.ref x :: S) k n H Q := W_s (rfl : (pj lw).1 2 61 = some (.aload_n 0, 1, 0)) rfl rfl rfl
theorem w2_62 {x : Int32} {l0 l1 : Slot} : W (pj lw) 2 62 (l0 :: l1 :: .val (.int x) :: L) S k n H Q ↔ W (pj lw) 2 63 (l0 :: l1 :: .val (.int x) :: L) (.int x :: S) k n H Q := W_s (rfl : (pj lw).1 2 62 = some (.iload_n 2, 1, 0)) rfl rfl rfl
theorem w2_63 {a : Nat} {v : Value} : W (pj lw) 2 63 L (v :: .ref a :: S) k n H Q ↔ ((isOw H a = true ∧ okv (.int) v = true) ∧ W (pj lw) 2 66 L S k n (wr H a 8 v) Q) := W_putf (rfl : (pj lw).1 2 63 = some (.putfield 84, 3, 8))
theorem w2_66 : W (pj lw) 2 66 L S k n H Q ↔ W (pj lw) 2 67 L (.int 1 :: S) k n H Q := W_s (rfl : (pj lw).1 2 66 = some (.iconst 1, 1, 0)) rfl rfl rfl
theorem w2_67 {x : Int32} : W (pj lw) 2 67 L (.int x :: S) k n H Q ↔ ((x = 0 ∨ x = 1) ∧ Q (some (.int x)) H) := W_rz (rfl : (pj lw).1 2 67 = some (.ireturn, 1, 0)) rfl
theorem w2_68 {x : Int32} {l0 : Slot} : W (pj lw) 2 68 (l0 :: .val (.int x) :: L) S k n H Q ↔ W (pj lw) 2 69 (l0 :: .val (.int x) :: L) (.int x :: S) k n H Q := W_s (rfl : (pj lw).1 2 68 = some (.iload_n 1, 1, 0)) rfl rfl rfl
theorem w2_69 : W (pj lw) 2 69 L S k n H Q ↔ W (pj lw) 2 70 L (.int 4 :: S) k n H Q := W_s (rfl : (pj lw).1 2 69 = some (.iconst 4, 1, 0)) rfl rfl rfl
theorem w2_70 {x y : Int32} : W (pj lw) 2 70 L (.int y :: .int x :: S) k n H Q ↔ (if x = y then W (pj lw) 2 73 L S k n H Q else W (pj lw) 2 92 L S k n H Q) := W_icmp_ne (rfl : (pj lw).1 2 70 = some (.if_icmp .ne 22, 3, 0)) rfl
theorem w2_73 {x : Int32} {l0 l1 : Slot} : W (pj lw) 2 73 (l0 :: l1 :: .val (.int x) :: L) S k n H Q ↔ W (pj lw) 2 74 (l0 :: l1 :: .val (.int x) :: L) (.int x :: S) k n H Q := W_s (rfl : (pj lw).1 2 73 = some (.iload_n 2, 1, 0)) rfl rfl rfl
theorem w2_74 {x : Int32} : W (pj lw) 2 74 L (.int x :: S) k n H Q ↔ (if x < 0 then W (pj lw) 2 83 L S k n H Q else W (pj lw) 2 77 L S k n H Q) := W_if_lt (rfl : (pj lw).1 2 74 = some (.ifCond .lt 9, 3, 0)) rfl
theorem w2_77 {x : Int32} {l0 l1 : Slot} : W (pj lw) 2 77 (l0 :: l1 :: .val (.int x) :: L) S k n H Q ↔ W (pj lw) 2 78 (l0 :: l1 :: .val (.int x) :: L) (.int x :: S) k n H Q := W_s (rfl : (pj lw).1 2 77 = some (.iload_n 2, 1, 0)) rfl rfl rfl
theorem w2_78 : W (pj lw) 2 78 L S k n H Q ↔ W (pj lw) 2 80 L (.int 16 :: S) k n H Q := W_s (rfl : (pj lw).1 2 78 = some (.bipush 16, 2, 0)) rfl rfl rfl
theorem w2_80 {x y : Int32} : W (pj lw) 2 80 L (.int y :: .int x :: S) k n H Q ↔ (if y < x then W (pj lw) 2 83 L S k n H Q else W (pj lw) 2 85 L S k n H Q) := W_icmp_le (rfl : (pj lw).1 2 80 = some (.if_icmp .le 5, 3, 0)) rfl
theorem w2_83 : W (pj lw) 2 83 L S k n H Q ↔ W (pj lw) 2 84 L (.int 0 :: S) k n H Q := W_s (rfl : (pj lw).1 2 83 = some (.iconst 0, 1, 0)) rfl rfl rfl
theorem w2_84 {x : Int32} : W (pj lw) 2 84 L (.int x :: S) k n H Q ↔ ((x = 0 ∨ x = 1) ∧ Q (some (.int x)) H) := W_rz (rfl : (pj lw).1 2 84 = some (.ireturn, 1, 0)) rfl
theorem w2_85 {x : Nat} : W (pj lw) 2 85 (.val (.ref x) :: L) S k n H Q ↔ W (pj lw) 2 86 (.val (.ref x) :: L) (.ref x :: S) k n H Q := W_s (rfl : (pj lw).1 2 85 = some (.aload_n 0, 1, 0)) rfl rfl rfl
theorem w2_86 {x : Int32} {l0 l1 : Slot} : W (pj lw) 2 86 (l0 :: l1 :: .val (.int x) :: L) S k n H Q ↔ W (pj lw) 2 87 (l0 :: l1 :: .val (.int x) :: L) (.int x :: S) k n H Q := W_s (rfl : (pj lw).1 2 86 = some (.iload_n 2, 1, 0)) rfl rfl rfl
theorem w2_87 {a : Nat} {v : Value} : W (pj lw) 2 87 L (v :: .ref a :: S) k n H Q ↔ ((isOw H a = true ∧ okv (.int) v = true) ∧ W (pj lw) 2 90 L S k n (wr H a 9 v) Q) := W_putf (rfl : (pj lw).1 2 87 = some (.putfield 91, 3, 9))
theorem w2_90 : W (pj lw) 2 90 L S k n H Q ↔ W (pj lw) 2 91 L (.int 1 :: S) k n H Q := W_s (rfl : (pj lw).1 2 90 = some (.iconst 1, 1, 0)) rfl rfl rfl
theorem w2_91 {x : Int32} : W (pj lw) 2 91 L (.int x :: S) k n H Q ↔ ((x = 0 ∨ x = 1) ∧ Q (some (.int x)) H) := W_rz (rfl : (pj lw).1 2 91 = some (.ireturn, 1, 0)) rfl
theorem w2_92 {x : Int32} {l0 : Slot} : W (pj lw) 2 92 (l0 :: .val (.int x) :: L) S k n H Q ↔ W (pj lw) 2 93 (l0 :: .val (.int x) :: L) (.int x :: S) k n H Q := W_s (rfl : (pj lw).1 2 92 = some (.iload_n 1, 1, 0)) rfl rfl rfl
theorem w2_93 : W (pj lw) 2 93 L S k n H Q ↔ W (pj lw) 2 94 L (.int 5 :: S) k n H Q := W_s (rfl : (pj lw).1 2 93 = some (.iconst 5, 1, 0)) rfl rfl rfl
theorem w2_94 {x y : Int32} : W (pj lw) 2 94 L (.int y :: .int x :: S) k n H Q ↔ (if x = y then W (pj lw) 2 97 L S k n H Q else W (pj lw) 2 104 L S k n H Q) := W_icmp_ne (rfl : (pj lw).1 2 94 = some (.if_icmp .ne 10, 3, 0)) rfl
theorem w2_97 {x : Nat} : W (pj lw) 2 97 (.val (.ref x) :: L) S k n H Q ↔ W (pj lw) 2 98 (.val (.ref x) :: L) (.ref x :: S) k n H Q := W_s (rfl : (pj lw).1 2 97 = some (.aload_n 0, 1, 0)) rfl rfl rfl
theorem w2_98 {x : Int32} {l0 l1 : Slot} : W (pj lw) 2 98 (l0 :: l1 :: .val (.int x) :: L) S k n H Q ↔ W (pj lw) 2 99 (l0 :: l1 :: .val (.int x) :: L) (.int x :: S) k n H Q := W_s (rfl : (pj lw).1 2 98 = some (.iload_n 2, 1, 0)) rfl rfl rfl
theorem w2_99 {x : Int32} {l0 l1 l2 : Slot} : W (pj lw) 2 99 (l0 :: l1 :: l2 :: .val (.int x) :: L) S k n H Q ↔ W (pj lw) 2 100 (l0 :: l1 :: l2 :: .val (.int x) :: L) (.int x :: S) k n H Q := W_s (rfl : (pj lw).1 2 99 = some (.iload_n 3, 1, 0)) rfl rfl rfl
theorem w2_100 {a : Nat} {x0 : Int32} {x1 : Int32} : W (pj lw) 2 100 L (.int x1 :: .int x0 :: .ref a :: S) k n H Q ↔ ((isO H a = true ∧ cs S + (3 + 11) + 0 ≤ 15) ∧ Cl (pj lw) 4 [.ref a, .int x0, .int x1] H (fun v H => W (pj lw) 2 103 L (v.toList ++ S) k n H Q)) := W_inst (as := [.int x0, .int x1]) (rfl : (pj lw).1 2 100 = some (.invokevirtual 94, 3, 4)) rfl rfl rfl (Nat.le_of_ble_eq_true rfl) (Nat.le_of_ble_eq_true rfl) ⟨rfl, rfl⟩
theorem w2_103 {x : Int32} : W (pj lw) 2 103 L (.int x :: S) k n H Q ↔ ((x = 0 ∨ x = 1) ∧ Q (some (.int x)) H) := W_rz (rfl : (pj lw).1 2 103 = some (.ireturn, 1, 0)) rfl
theorem w2_104 : W (pj lw) 2 104 L S k n H Q ↔ W (pj lw) 2 105 L (.int 0 :: S) k n H Q := W_s (rfl : (pj lw).1 2 104 = some (.iconst 0, 1, 0)) rfl rfl rfl
theorem w2_105 {x : Int32} : W (pj lw) 2 105 L (.int x :: S) k n H Q ↔ ((x = 0 ∨ x = 1) ∧ Q (some (.int x)) H) := W_rz (rfl : (pj lw).1 2 105 = some (.ireturn, 1, 0)) rfl
theorem c3 {x0 : Nat} {x1 : Int32} {x2 : Int32} {x3 : Int32} : Cl (pj lw) 3 [.ref x0, .int x1, .int x2, .int x3] H Q ↔ W (pj lw) 3 0 [.val (.ref x0), .val (.int x1), .val (.int x2), .val (.int x3)] [] 0 0 H Q := cl_unf rfl
theorem w3_0 {x : Int32} {l0 : Slot} : W (pj lw) 3 0 (l0 :: .val (.int x) :: L) S k n H Q ↔ W (pj lw) 3 1 (l0 :: .val (.int x) :: L) (.int x :: S) k n H Q := W_s (rfl : (pj lw).1 3 0 = some (.iload_n 1, 1, 0)) rfl rfl rfl
theorem w3_1 : W (pj lw) 3 1 L S k n H Q ↔ W (pj lw) 3 2 L (.int (-1) :: S) k n H Q := W_s (rfl : (pj lw).1 3 1 = some (.iconst (-1), 1, 0)) rfl rfl rfl
theorem w3_2 {x y : Int32} : W (pj lw) 3 2 L (.int y :: .int x :: S) k n H Q ↔ (if x = y then W (pj lw) 3 5 L S k n H Q else W (pj lw) 3 12 L S k n H Q) := W_icmp_ne (rfl : (pj lw).1 3 2 = some (.if_icmp .ne 10, 3, 0)) rfl
theorem w3_5 {x : Nat} : W (pj lw) 3 5 (.val (.ref x) :: L) S k n H Q ↔ W (pj lw) 3 6 (.val (.ref x) :: L) (.ref x :: S) k n H Q := W_s (rfl : (pj lw).1 3 5 = some (.aload_n 0, 1, 0)) rfl rfl rfl
theorem w3_6 : W (pj lw) 3 6 L S k n H Q ↔ W (pj lw) 3 7 L (.int (-1) :: S) k n H Q := W_s (rfl : (pj lw).1 3 6 = some (.iconst (-1), 1, 0)) rfl rfl rfl
theorem w3_7 {a : Nat} {v : Value} : W (pj lw) 3 7 L (v :: .ref a :: S) k n H Q ↔ ((isOw H a = true ∧ okv (.int) v = true) ∧ W (pj lw) 3 10 L S k n (wr H a 4 v) Q) := W_putf (rfl : (pj lw).1 3 7 = some (.putfield 78, 3, 4))
theorem w3_10 : W (pj lw) 3 10 L S k n H Q ↔ W (pj lw) 3 11 L (.int 1 :: S) k n H Q := W_s (rfl : (pj lw).1 3 10 = some (.iconst 1, 1, 0)) rfl rfl rfl
theorem w3_11 {x : Int32} : W (pj lw) 3 11 L (.int x :: S) k n H Q ↔ ((x = 0 ∨ x = 1) ∧ Q (some (.int x)) H) := W_rz (rfl : (pj lw).1 3 11 = some (.ireturn, 1, 0)) rfl
theorem w3_12 {x : Int32} {l0 : Slot} : W (pj lw) 3 12 (l0 :: .val (.int x) :: L) S k n H Q ↔ W (pj lw) 3 13 (l0 :: .val (.int x) :: L) (.int x :: S) k n H Q := W_s (rfl : (pj lw).1 3 12 = some (.iload_n 1, 1, 0)) rfl rfl rfl
theorem w3_13 {x : Int32} : W (pj lw) 3 13 L (.int x :: S) k n H Q ↔ (if x < 0 then W (pj lw) 3 24 L S k n H Q else W (pj lw) 3 16 L S k n H Q) := W_if_lt (rfl : (pj lw).1 3 13 = some (.ifCond .lt 11, 3, 0)) rfl
theorem w3_16 {x : Int32} {l0 : Slot} : W (pj lw) 3 16 (l0 :: .val (.int x) :: L) S k n H Q ↔ W (pj lw) 3 17 (l0 :: .val (.int x) :: L) (.int x :: S) k n H Q := W_s (rfl : (pj lw).1 3 16 = some (.iload_n 1, 1, 0)) rfl rfl rfl
theorem w3_17 {x : Nat} : W (pj lw) 3 17 (.val (.ref x) :: L) S k n H Q ↔ W (pj lw) 3 18 (.val (.ref x) :: L) (.ref x :: S) k n H Q := W_s (rfl : (pj lw).1 3 17 = some (.aload_n 0, 1, 0)) rfl rfl rfl
theorem w3_18 {a : Nat} : W (pj lw) 3 18 L (.ref a :: S) k n H Q ↔ (isO H a = true ∧ W (pj lw) 3 21 L (fld H a 0 :: S) k n H Q) := W_getf (rfl : (pj lw).1 3 18 = some (.getfield 64, 3, 0))
theorem w3_21 {x y : Int32} : W (pj lw) 3 21 L (.int y :: .int x :: S) k n H Q ↔ (if x < y then W (pj lw) 3 26 L S k n H Q else W (pj lw) 3 24 L S k n H Q) := W_icmp_lt (rfl : (pj lw).1 3 21 = some (.if_icmp .lt 5, 3, 0)) rfl
theorem w3_24 : W (pj lw) 3 24 L S k n H Q ↔ W (pj lw) 3 25 L (.int 0 :: S) k n H Q := W_s (rfl : (pj lw).1 3 24 = some (.iconst 0, 1, 0)) rfl rfl rfl
theorem w3_25 {x : Int32} : W (pj lw) 3 25 L (.int x :: S) k n H Q ↔ ((x = 0 ∨ x = 1) ∧ Q (some (.int x)) H) := W_rz (rfl : (pj lw).1 3 25 = some (.ireturn, 1, 0)) rfl
theorem w3_26 {x : Int32} {l0 l1 : Slot} : W (pj lw) 3 26 (l0 :: l1 :: .val (.int x) :: L) S k n H Q ↔ W (pj lw) 3 27 (l0 :: l1 :: .val (.int x) :: L) (.int x :: S) k n H Q := W_s (rfl : (pj lw).1 3 26 = some (.iload_n 2, 1, 0)) rfl rfl rfl
theorem w3_27 : W (pj lw) 3 27 L S k n H Q ↔ W (pj lw) 3 28 L (.int 1 :: S) k n H Q := W_s (rfl : (pj lw).1 3 27 = some (.iconst 1, 1, 0)) rfl rfl rfl
theorem w3_28 {x y : Int32} : W (pj lw) 3 28 L (.int y :: .int x :: S) k n H Q ↔ (if x < y then W (pj lw) 3 37 L S k n H Q else W (pj lw) 3 31 L S k n H Q) := W_icmp_lt (rfl : (pj lw).1 3 28 = some (.if_icmp .lt 9, 3, 0)) rfl
theorem w3_31 {x : Int32} {l0 l1 : Slot} : W (pj lw) 3 31 (l0 :: l1 :: .val (.int x) :: L) S k n H Q ↔ W (pj lw) 3 32 (l0 :: l1 :: .val (.int x) :: L) (.int x :: S) k n H Q := W_s (rfl : (pj lw).1 3 31 = some (.iload_n 2, 1, 0)) rfl rfl rfl
theorem w3_32 : W (pj lw) 3 32 L S k n H Q ↔ W (pj lw) 3 34 L (.int 64 :: S) k n H Q := W_s (rfl : (pj lw).1 3 32 = some (.bipush 64, 2, 0)) rfl rfl rfl
theorem w3_34 {x y : Int32} : W (pj lw) 3 34 L (.int y :: .int x :: S) k n H Q ↔ (if y < x then W (pj lw) 3 37 L S k n H Q else W (pj lw) 3 39 L S k n H Q) := W_icmp_le (rfl : (pj lw).1 3 34 = some (.if_icmp .le 5, 3, 0)) rfl
theorem w3_37 : W (pj lw) 3 37 L S k n H Q ↔ W (pj lw) 3 38 L (.int 0 :: S) k n H Q := W_s (rfl : (pj lw).1 3 37 = some (.iconst 0, 1, 0)) rfl rfl rfl
theorem w3_38 {x : Int32} : W (pj lw) 3 38 L (.int x :: S) k n H Q ↔ ((x = 0 ∨ x = 1) ∧ Q (some (.int x)) H) := W_rz (rfl : (pj lw).1 3 38 = some (.ireturn, 1, 0)) rfl
theorem w3_39 {x : Int32} {l0 l1 l2 : Slot} : W (pj lw) 3 39 (l0 :: l1 :: l2 :: .val (.int x) :: L) S k n H Q ↔ W (pj lw) 3 40 (l0 :: l1 :: l2 :: .val (.int x) :: L) (.int x :: S) k n H Q := W_s (rfl : (pj lw).1 3 39 = some (.iload_n 3, 1, 0)) rfl rfl rfl
theorem w3_40 {x : Int32} : W (pj lw) 3 40 L (.int x :: S) k n H Q ↔ (if x < 0 then W (pj lw) 3 49 L S k n H Q else W (pj lw) 3 43 L S k n H Q) := W_if_lt (rfl : (pj lw).1 3 40 = some (.ifCond .lt 9, 3, 0)) rfl
theorem w3_43 {x : Int32} {l0 l1 l2 : Slot} : W (pj lw) 3 43 (l0 :: l1 :: l2 :: .val (.int x) :: L) S k n H Q ↔ W (pj lw) 3 44 (l0 :: l1 :: l2 :: .val (.int x) :: L) (.int x :: S) k n H Q := W_s (rfl : (pj lw).1 3 43 = some (.iload_n 3, 1, 0)) rfl rfl rfl
theorem w3_44 : W (pj lw) 3 44 L S k n H Q ↔ W (pj lw) 3 46 L (.int 64 :: S) k n H Q := W_s (rfl : (pj lw).1 3 44 = some (.bipush 64, 2, 0)) rfl rfl rfl
theorem w3_46 {x y : Int32} : W (pj lw) 3 46 L (.int y :: .int x :: S) k n H Q ↔ (if y < x then W (pj lw) 3 49 L S k n H Q else W (pj lw) 3 51 L S k n H Q) := W_icmp_le (rfl : (pj lw).1 3 46 = some (.if_icmp .le 5, 3, 0)) rfl
theorem w3_49 : W (pj lw) 3 49 L S k n H Q ↔ W (pj lw) 3 50 L (.int 0 :: S) k n H Q := W_s (rfl : (pj lw).1 3 49 = some (.iconst 0, 1, 0)) rfl rfl rfl
theorem w3_50 {x : Int32} : W (pj lw) 3 50 L (.int x :: S) k n H Q ↔ ((x = 0 ∨ x = 1) ∧ Q (some (.int x)) H) := W_rz (rfl : (pj lw).1 3 50 = some (.ireturn, 1, 0)) rfl
theorem w3_51 {x : Nat} : W (pj lw) 3 51 (.val (.ref x) :: L) S k n H Q ↔ W (pj lw) 3 52 (.val (.ref x) :: L) (.ref x :: S) k n H Q := W_s (rfl : (pj lw).1 3 51 = some (.aload_n 0, 1, 0)) rfl rfl rfl
theorem w3_52 {x : Int32} {l0 : Slot} : W (pj lw) 3 52 (l0 :: .val (.int x) :: L) S k n H Q ↔ W (pj lw) 3 53 (l0 :: .val (.int x) :: L) (.int x :: S) k n H Q := W_s (rfl : (pj lw).1 3 52 = some (.iload_n 1, 1, 0)) rfl rfl rfl
theorem w3_53 {a : Nat} {v : Value} : W (pj lw) 3 53 L (v :: .ref a :: S) k n H Q ↔ ((isOw H a = true ∧ okv (.int) v = true) ∧ W (pj lw) 3 56 L S k n (wr H a 4 v) Q) := W_putf (rfl : (pj lw).1 3 53 = some (.putfield 78, 3, 4))
theorem w3_56 {x : Nat} : W (pj lw) 3 56 (.val (.ref x) :: L) S k n H Q ↔ W (pj lw) 3 57 (.val (.ref x) :: L) (.ref x :: S) k n H Q := W_s (rfl : (pj lw).1 3 56 = some (.aload_n 0, 1, 0)) rfl rfl rfl
theorem w3_57 {x : Int32} {l0 l1 : Slot} : W (pj lw) 3 57 (l0 :: l1 :: .val (.int x) :: L) S k n H Q ↔ W (pj lw) 3 58 (l0 :: l1 :: .val (.int x) :: L) (.int x :: S) k n H Q := W_s (rfl : (pj lw).1 3 57 = some (.iload_n 2, 1, 0)) rfl rfl rfl
theorem w3_58 {a : Nat} {v : Value} : W (pj lw) 3 58 L (v :: .ref a :: S) k n H Q ↔ ((isOw H a = true ∧ okv (.int) v = true) ∧ W (pj lw) 3 61 L S k n (wr H a 5 v) Q) := W_putf (rfl : (pj lw).1 3 58 = some (.putfield 98, 3, 5))
theorem w3_61 {x : Nat} : W (pj lw) 3 61 (.val (.ref x) :: L) S k n H Q ↔ W (pj lw) 3 62 (.val (.ref x) :: L) (.ref x :: S) k n H Q := W_s (rfl : (pj lw).1 3 61 = some (.aload_n 0, 1, 0)) rfl rfl rfl
theorem w3_62 {x : Int32} {l0 l1 l2 : Slot} : W (pj lw) 3 62 (l0 :: l1 :: l2 :: .val (.int x) :: L) S k n H Q ↔ W (pj lw) 3 63 (l0 :: l1 :: l2 :: .val (.int x) :: L) (.int x :: S) k n H Q := W_s (rfl : (pj lw).1 3 62 = some (.iload_n 3, 1, 0)) rfl rfl rfl
theorem w3_63 {a : Nat} {v : Value} : W (pj lw) 3 63 L (v :: .ref a :: S) k n H Q ↔ ((isOw H a = true ∧ okv (.int) v = true) ∧ W (pj lw) 3 66 L S k n (wr H a 6 v) Q) := W_putf (rfl : (pj lw).1 3 63 = some (.putfield 101, 3, 6))
theorem w3_66 : W (pj lw) 3 66 L S k n H Q ↔ W (pj lw) 3 67 L (.int 1 :: S) k n H Q := W_s (rfl : (pj lw).1 3 66 = some (.iconst 1, 1, 0)) rfl rfl rfl
theorem w3_67 {x : Int32} : W (pj lw) 3 67 L (.int x :: S) k n H Q ↔ ((x = 0 ∨ x = 1) ∧ Q (some (.int x)) H) := W_rz (rfl : (pj lw).1 3 67 = some (.ireturn, 1, 0)) rfl
theorem c4 {x0 : Nat} {x1 : Int32} {x2 : Int32} : Cl (pj lw) 4 [.ref x0, .int x1, .int x2] H Q ↔ W (pj lw) 4 0 [.val (.ref x0), .val (.int x1), .val (.int x2)] [] 0 0 H Q := cl_unf rfl
theorem w4_0 {x : Int32} {l0 : Slot} : W (pj lw) 4 0 (l0 :: .val (.int x) :: L) S k n H Q ↔ W (pj lw) 4 1 (l0 :: .val (.int x) :: L) (.int x :: S) k n H Q := W_s (rfl : (pj lw).1 4 0 = some (.iload_n 1, 1, 0)) rfl rfl rfl
theorem w4_1 {x : Int32} : W (pj lw) 4 1 L (.int x :: S) k n H Q ↔ (if x < 0 then W (pj lw) 4 9 L S k n H Q else W (pj lw) 4 4 L S k n H Q) := W_if_lt (rfl : (pj lw).1 4 1 = some (.ifCond .lt 8, 3, 0)) rfl
theorem w4_4 {x : Int32} {l0 : Slot} : W (pj lw) 4 4 (l0 :: .val (.int x) :: L) S k n H Q ↔ W (pj lw) 4 5 (l0 :: .val (.int x) :: L) (.int x :: S) k n H Q := W_s (rfl : (pj lw).1 4 4 = some (.iload_n 1, 1, 0)) rfl rfl rfl
theorem w4_5 : W (pj lw) 4 5 L S k n H Q ↔ W (pj lw) 4 6 L (.int 3 :: S) k n H Q := W_s (rfl : (pj lw).1 4 5 = some (.iconst 3, 1, 0)) rfl rfl rfl
theorem w4_6 {x y : Int32} : W (pj lw) 4 6 L (.int y :: .int x :: S) k n H Q ↔ (if y < x then W (pj lw) 4 9 L S k n H Q else W (pj lw) 4 11 L S k n H Q) := W_icmp_le (rfl : (pj lw).1 4 6 = some (.if_icmp .le 5, 3, 0)) rfl
theorem w4_9 : W (pj lw) 4 9 L S k n H Q ↔ W (pj lw) 4 10 L (.int 0 :: S) k n H Q := W_s (rfl : (pj lw).1 4 9 = some (.iconst 0, 1, 0)) rfl rfl rfl
theorem w4_10 {x : Int32} : W (pj lw) 4 10 L (.int x :: S) k n H Q ↔ ((x = 0 ∨ x = 1) ∧ Q (some (.int x)) H) := W_rz (rfl : (pj lw).1 4 10 = some (.ireturn, 1, 0)) rfl
theorem w4_11 {x : Int32} {l0 l1 : Slot} : W (pj lw) 4 11 (l0 :: l1 :: .val (.int x) :: L) S k n H Q ↔ W (pj lw) 4 12 (l0 :: l1 :: .val (.int x) :: L) (.int x :: S) k n H Q := W_s (rfl : (pj lw).1 4 11 = some (.iload_n 2, 1, 0)) rfl rfl rfl
theorem w4_12 : W (pj lw) 4 12 L S k n H Q ↔ W (pj lw) 4 13 L (.int (-1) :: S) k n H Q := W_s (rfl : (pj lw).1 4 12 = some (.iconst (-1), 1, 0)) rfl rfl rfl
theorem w4_13 {x y : Int32} : W (pj lw) 4 13 L (.int y :: .int x :: S) k n H Q ↔ (if x < y then W (pj lw) 4 24 L S k n H Q else W (pj lw) 4 16 L S k n H Q) := W_icmp_lt (rfl : (pj lw).1 4 13 = some (.if_icmp .lt 11, 3, 0)) rfl
theorem w4_16 {x : Int32} {l0 l1 : Slot} : W (pj lw) 4 16 (l0 :: l1 :: .val (.int x) :: L) S k n H Q ↔ W (pj lw) 4 17 (l0 :: l1 :: .val (.int x) :: L) (.int x :: S) k n H Q := W_s (rfl : (pj lw).1 4 16 = some (.iload_n 2, 1, 0)) rfl rfl rfl
theorem w4_17 {x : Nat} : W (pj lw) 4 17 (.val (.ref x) :: L) S k n H Q ↔ W (pj lw) 4 18 (.val (.ref x) :: L) (.ref x :: S) k n H Q := W_s (rfl : (pj lw).1 4 17 = some (.aload_n 0, 1, 0)) rfl rfl rfl
theorem w4_18 {a : Nat} : W (pj lw) 4 18 L (.ref a :: S) k n H Q ↔ (isO H a = true ∧ W (pj lw) 4 21 L (fld H a 0 :: S) k n H Q) := W_getf (rfl : (pj lw).1 4 18 = some (.getfield 64, 3, 0))
theorem w4_21 {x y : Int32} : W (pj lw) 4 21 L (.int y :: .int x :: S) k n H Q ↔ (if x < y then W (pj lw) 4 26 L S k n H Q else W (pj lw) 4 24 L S k n H Q) := W_icmp_lt (rfl : (pj lw).1 4 21 = some (.if_icmp .lt 5, 3, 0)) rfl
theorem w4_24 : W (pj lw) 4 24 L S k n H Q ↔ W (pj lw) 4 25 L (.int 0 :: S) k n H Q := W_s (rfl : (pj lw).1 4 24 = some (.iconst 0, 1, 0)) rfl rfl rfl
theorem w4_25 {x : Int32} : W (pj lw) 4 25 L (.int x :: S) k n H Q ↔ ((x = 0 ∨ x = 1) ∧ Q (some (.int x)) H) := W_rz (rfl : (pj lw).1 4 25 = some (.ireturn, 1, 0)) rfl
theorem w4_26 {x : Nat} : W (pj lw) 4 26 (.val (.ref x) :: L) S k n H Q ↔ W (pj lw) 4 27 (.val (.ref x) :: L) (.ref x :: S) k n H Q := W_s (rfl : (pj lw).1 4 26 = some (.aload_n 0, 1, 0)) rfl rfl rfl
theorem w4_27 {a : Nat} : W (pj lw) 4 27 L (.ref a :: S) k n H Q ↔ (isO H a = true ∧ W (pj lw) 4 30 L (fld H a 33 :: S) k n H Q) := W_getf (rfl : (pj lw).1 4 27 = some (.getfield 44, 3, 33))
theorem w4_30 {x : Int32} {l0 : Slot} : W (pj lw) 4 30 (l0 :: .val (.int x) :: L) S k n H Q ↔ W (pj lw) 4 31 (l0 :: .val (.int x) :: L) (.int x :: S) k n H Q := W_s (rfl : (pj lw).1 4 30 = some (.iload_n 1, 1, 0)) rfl rfl rfl
theorem w4_31 {x : Int32} {l0 l1 : Slot} : W (pj lw) 4 31 (l0 :: l1 :: .val (.int x) :: L) S k n H Q ↔ W (pj lw) 4 32 (l0 :: l1 :: .val (.int x) :: L) (.int x :: S) k n H Q := W_s (rfl : (pj lw).1 4 31 = some (.iload_n 2, 1, 0)) rfl rfl rfl
theorem w4_32 {x i : Int32} {a : Nat} : W (pj lw) 4 32 L (.int x :: .int i :: .ref a :: S) k n H Q ↔ (inAw H a .int i = true ∧ W (pj lw) 4 33 L S k n (wr H a i.toNatClampNeg (.int x)) Q) := W_iastore (rfl : (pj lw).1 4 32 = some (.iastore, 1, 0))
theorem w4_33 {x : Nat} : W (pj lw) 4 33 (.val (.ref x) :: L) S k n H Q ↔ W (pj lw) 4 34 (.val (.ref x) :: L) (.ref x :: S) k n H Q := W_s (rfl : (pj lw).1 4 33 = some (.aload_n 0, 1, 0)) rfl rfl rfl
theorem w4_34 {a : Nat} : W (pj lw) 4 34 L (.ref a :: S) k n H Q ↔ (isO H a = true ∧ W (pj lw) 4 37 L (fld H a 34 :: S) k n H Q) := W_getf (rfl : (pj lw).1 4 34 = some (.getfield 47, 3, 34))
theorem w4_37 {x : Int32} {l0 : Slot} : W (pj lw) 4 37 (l0 :: .val (.int x) :: L) S k n H Q ↔ W (pj lw) 4 38 (l0 :: .val (.int x) :: L) (.int x :: S) k n H Q := W_s (rfl : (pj lw).1 4 37 = some (.iload_n 1, 1, 0)) rfl rfl rfl
theorem w4_38 : W (pj lw) 4 38 L S k n H Q ↔ W (pj lw) 4 39 L (.long 0 :: S) k n H Q := W_s (rfl : (pj lw).1 4 38 = some (.lconst 0, 1, 0)) rfl rfl rfl
theorem w4_39 {x : Int64} {i : Int32} {a : Nat} : W (pj lw) 4 39 L (.long x :: .int i :: .ref a :: S) k n H Q ↔ (inAw H a .long i = true ∧ W (pj lw) 4 40 L S k n (wr H a i.toNatClampNeg (.long x)) Q) := W_lastore (rfl : (pj lw).1 4 39 = some (.lastore, 1, 0))
theorem w4_40 {x : Nat} : W (pj lw) 4 40 (.val (.ref x) :: L) S k n H Q ↔ W (pj lw) 4 41 (.val (.ref x) :: L) (.ref x :: S) k n H Q := W_s (rfl : (pj lw).1 4 40 = some (.aload_n 0, 1, 0)) rfl rfl rfl
theorem w4_41 {a : Nat} : W (pj lw) 4 41 L (.ref a :: S) k n H Q ↔ (isO H a = true ∧ W (pj lw) 4 44 L (fld H a 35 :: S) k n H Q) := W_getf (rfl : (pj lw).1 4 41 = some (.getfield 51, 3, 35))
theorem w4_44 {x : Int32} {l0 : Slot} : W (pj lw) 4 44 (l0 :: .val (.int x) :: L) S k n H Q ↔ W (pj lw) 4 45 (l0 :: .val (.int x) :: L) (.int x :: S) k n H Q := W_s (rfl : (pj lw).1 4 44 = some (.iload_n 1, 1, 0)) rfl rfl rfl
theorem w4_45 : W (pj lw) 4 45 L S k n H Q ↔ W (pj lw) 4 46 L (.long 0 :: S) k n H Q := W_s (rfl : (pj lw).1 4 45 = some (.lconst 0, 1, 0)) rfl rfl rfl
theorem w4_46 {x : Int64} {i : Int32} {a : Nat} : W (pj lw) 4 46 L (.long x :: .int i :: .ref a :: S) k n H Q ↔ (inAw H a .long i = true ∧ W (pj lw) 4 47 L S k n (wr H a i.toNatClampNeg (.long x)) Q) := W_lastore (rfl : (pj lw).1 4 46 = some (.lastore, 1, 0))
theorem w4_47 {x : Nat} : W (pj lw) 4 47 (.val (.ref x) :: L) S k n H Q ↔ W (pj lw) 4 48 (.val (.ref x) :: L) (.ref x :: S) k n H Q := W_s (rfl : (pj lw).1 4 47 = some (.aload_n 0, 1, 0)) rfl rfl rfl
theorem w4_48 {a : Nat} : W (pj lw) 4 48 L (.ref a :: S) k n H Q ↔ (isO H a = true ∧ W (pj lw) 4 51 L (fld H a 36 :: S) k n H Q) := W_getf (rfl : (pj lw).1 4 48 = some (.getfield 54, 3, 36))
theorem w4_51 {x : Int32} {l0 : Slot} : W (pj lw) 4 51 (l0 :: .val (.int x) :: L) S k n H Q ↔ W (pj lw) 4 52 (l0 :: .val (.int x) :: L) (.int x :: S) k n H Q := W_s (rfl : (pj lw).1 4 51 = some (.iload_n 1, 1, 0)) rfl rfl rfl
theorem w4_52 : W (pj lw) 4 52 L S k n H Q ↔ W (pj lw) 4 53 L (.long 0 :: S) k n H Q := W_s (rfl : (pj lw).1 4 52 = some (.lconst 0, 1, 0)) rfl rfl rfl
theorem w4_53 {x : Int64} {i : Int32} {a : Nat} : W (pj lw) 4 53 L (.long x :: .int i :: .ref a :: S) k n H Q ↔ (inAw H a .long i = true ∧ W (pj lw) 4 54 L S k n (wr H a i.toNatClampNeg (.long x)) Q) := W_lastore (rfl : (pj lw).1 4 53 = some (.lastore, 1, 0))
theorem w4_54 {x : Nat} : W (pj lw) 4 54 (.val (.ref x) :: L) S k n H Q ↔ W (pj lw) 4 55 (.val (.ref x) :: L) (.ref x :: S) k n H Q := W_s (rfl : (pj lw).1 4 54 = some (.aload_n 0, 1, 0)) rfl rfl rfl
theorem w4_55 {a : Nat} : W (pj lw) 4 55 L (.ref a :: S) k n H Q ↔ (isO H a = true ∧ W (pj lw) 4 58 L (fld H a 37 :: S) k n H Q) := W_getf (rfl : (pj lw).1 4 55 = some (.getfield 57, 3, 37))
theorem w4_58 {x : Int32} {l0 : Slot} : W (pj lw) 4 58 (l0 :: .val (.int x) :: L) S k n H Q ↔ W (pj lw) 4 59 (l0 :: .val (.int x) :: L) (.int x :: S) k n H Q := W_s (rfl : (pj lw).1 4 58 = some (.iload_n 1, 1, 0)) rfl rfl rfl
theorem w4_59 : W (pj lw) 4 59 L S k n H Q ↔ W (pj lw) 4 60 L (.long 0 :: S) k n H Q := W_s (rfl : (pj lw).1 4 59 = some (.lconst 0, 1, 0)) rfl rfl rfl
theorem w4_60 {x : Int64} {i : Int32} {a : Nat} : W (pj lw) 4 60 L (.long x :: .int i :: .ref a :: S) k n H Q ↔ (inAw H a .long i = true ∧ W (pj lw) 4 61 L S k n (wr H a i.toNatClampNeg (.long x)) Q) := W_lastore (rfl : (pj lw).1 4 60 = some (.lastore, 1, 0))
theorem w4_61 : W (pj lw) 4 61 L S k n H Q ↔ W (pj lw) 4 62 L (.int 1 :: S) k n H Q := W_s (rfl : (pj lw).1 4 61 = some (.iconst 1, 1, 0)) rfl rfl rfl
theorem w4_62 {x : Int32} : W (pj lw) 4 62 L (.int x :: S) k n H Q ↔ ((x = 0 ∨ x = 1) ∧ Q (some (.int x)) H) := W_rz (rfl : (pj lw).1 4 62 = some (.ireturn, 1, 0)) rfl
theorem c5 {x0 : Nat} {x1 : Int32} {x2 : Int32} {x3 : Int32} {x4 : Int32} : Cl (pj lw) 5 [.ref x0, .int x1, .int x2, .int x3, .int x4] H Q ↔ W (pj lw) 5 0 [.val (.ref x0), .val (.int x1), .val (.int x2), .val (.int x3), .val (.int x4), .unset] [] 0 0 H Q := cl_unf rfl
theorem w5_0 {x : Int32} {l0 : Slot} : W (pj lw) 5 0 (l0 :: .val (.int x) :: L) S k n H Q ↔ W (pj lw) 5 1 (l0 :: .val (.int x) :: L) (.int x :: S) k n H Q := W_s (rfl : (pj lw).1 5 0 = some (.iload_n 1, 1, 0)) rfl rfl rfl
theorem w5_1 {x : Int32} : W (pj lw) 5 1 L (.int x :: S) k n H Q ↔ (if x < 0 then W (pj lw) 5 12 L S k n H Q else W (pj lw) 5 4 L S k n H Q) := W_if_lt (rfl : (pj lw).1 5 1 = some (.ifCond .lt 11, 3, 0)) rfl
theorem w5_4 {x : Int32} {l0 : Slot} : W (pj lw) 5 4 (l0 :: .val (.int x) :: L) S k n H Q ↔ W (pj lw) 5 5 (l0 :: .val (.int x) :: L) (.int x :: S) k n H Q := W_s (rfl : (pj lw).1 5 4 = some (.iload_n 1, 1, 0)) rfl rfl rfl
theorem w5_5 {x : Nat} : W (pj lw) 5 5 (.val (.ref x) :: L) S k n H Q ↔ W (pj lw) 5 6 (.val (.ref x) :: L) (.ref x :: S) k n H Q := W_s (rfl : (pj lw).1 5 5 = some (.aload_n 0, 1, 0)) rfl rfl rfl
theorem w5_6 {a : Nat} : W (pj lw) 5 6 L (.ref a :: S) k n H Q ↔ (isO H a = true ∧ W (pj lw) 5 9 L (fld H a 1 :: S) k n H Q) := W_getf (rfl : (pj lw).1 5 6 = some (.getfield 68, 3, 1))
theorem w5_9 {x y : Int32} : W (pj lw) 5 9 L (.int y :: .int x :: S) k n H Q ↔ (if x < y then W (pj lw) 5 14 L S k n H Q else W (pj lw) 5 12 L S k n H Q) := W_icmp_lt (rfl : (pj lw).1 5 9 = some (.if_icmp .lt 5, 3, 0)) rfl
theorem w5_12 : W (pj lw) 5 12 L S k n H Q ↔ W (pj lw) 5 13 L (.int 0 :: S) k n H Q := W_s (rfl : (pj lw).1 5 12 = some (.iconst 0, 1, 0)) rfl rfl rfl
theorem w5_13 {x : Int32} : W (pj lw) 5 13 L (.int x :: S) k n H Q ↔ ((x = 0 ∨ x = 1) ∧ Q (some (.int x)) H) := W_rz (rfl : (pj lw).1 5 13 = some (.ireturn, 1, 0)) rfl
theorem w5_14 {x : Int32} {l0 l1 : Slot} : W (pj lw) 5 14 (l0 :: l1 :: .val (.int x) :: L) S k n H Q ↔ W (pj lw) 5 15 (l0 :: l1 :: .val (.int x) :: L) (.int x :: S) k n H Q := W_s (rfl : (pj lw).1 5 14 = some (.iload_n 2, 1, 0)) rfl rfl rfl
theorem w5_15 {x : Int32} : W (pj lw) 5 15 L (.int x :: S) k n H Q ↔ (if x < 0 then W (pj lw) 5 26 L S k n H Q else W (pj lw) 5 18 L S k n H Q) := W_if_lt (rfl : (pj lw).1 5 15 = some (.ifCond .lt 11, 3, 0)) rfl
theorem w5_18 {x : Int32} {l0 l1 : Slot} : W (pj lw) 5 18 (l0 :: l1 :: .val (.int x) :: L) S k n H Q ↔ W (pj lw) 5 19 (l0 :: l1 :: .val (.int x) :: L) (.int x :: S) k n H Q := W_s (rfl : (pj lw).1 5 18 = some (.iload_n 2, 1, 0)) rfl rfl rfl
theorem w5_19 {x : Nat} : W (pj lw) 5 19 (.val (.ref x) :: L) S k n H Q ↔ W (pj lw) 5 20 (.val (.ref x) :: L) (.ref x :: S) k n H Q := W_s (rfl : (pj lw).1 5 19 = some (.aload_n 0, 1, 0)) rfl rfl rfl
theorem w5_20 {a : Nat} : W (pj lw) 5 20 L (.ref a :: S) k n H Q ↔ (isO H a = true ∧ W (pj lw) 5 23 L (fld H a 0 :: S) k n H Q) := W_getf (rfl : (pj lw).1 5 20 = some (.getfield 64, 3, 0))
theorem w5_23 {x y : Int32} : W (pj lw) 5 23 L (.int y :: .int x :: S) k n H Q ↔ (if x < y then W (pj lw) 5 28 L S k n H Q else W (pj lw) 5 26 L S k n H Q) := W_icmp_lt (rfl : (pj lw).1 5 23 = some (.if_icmp .lt 5, 3, 0)) rfl
theorem w5_26 : W (pj lw) 5 26 L S k n H Q ↔ W (pj lw) 5 27 L (.int 0 :: S) k n H Q := W_s (rfl : (pj lw).1 5 26 = some (.iconst 0, 1, 0)) rfl rfl rfl
theorem w5_27 {x : Int32} : W (pj lw) 5 27 L (.int x :: S) k n H Q ↔ ((x = 0 ∨ x = 1) ∧ Q (some (.int x)) H) := W_rz (rfl : (pj lw).1 5 27 = some (.ireturn, 1, 0)) rfl
theorem w5_28 {x : Int32} {l0 l1 l2 : Slot} : W (pj lw) 5 28 (l0 :: l1 :: l2 :: .val (.int x) :: L) S k n H Q ↔ W (pj lw) 5 29 (l0 :: l1 :: l2 :: .val (.int x) :: L) (.int x :: S) k n H Q := W_s (rfl : (pj lw).1 5 28 = some (.iload_n 3, 1, 0)) rfl rfl rfl
theorem w5_29 {x : Int32} : W (pj lw) 5 29 L (.int x :: S) k n H Q ↔ (if x < 0 then W (pj lw) 5 40 L S k n H Q else W (pj lw) 5 32 L S k n H Q) := W_if_lt (rfl : (pj lw).1 5 29 = some (.ifCond .lt 11, 3, 0)) rfl
theorem w5_32 {x : Int32} {l0 l1 l2 : Slot} : W (pj lw) 5 32 (l0 :: l1 :: l2 :: .val (.int x) :: L) S k n H Q ↔ W (pj lw) 5 33 (l0 :: l1 :: l2 :: .val (.int x) :: L) (.int x :: S) k n H Q := W_s (rfl : (pj lw).1 5 32 = some (.iload_n 3, 1, 0)) rfl rfl rfl
theorem w5_33 {x : Nat} : W (pj lw) 5 33 (.val (.ref x) :: L) S k n H Q ↔ W (pj lw) 5 34 (.val (.ref x) :: L) (.ref x :: S) k n H Q := W_s (rfl : (pj lw).1 5 33 = some (.aload_n 0, 1, 0)) rfl rfl rfl
theorem w5_34 {a : Nat} : W (pj lw) 5 34 L (.ref a :: S) k n H Q ↔ (isO H a = true ∧ W (pj lw) 5 37 L (fld H a 2 :: S) k n H Q) := W_getf (rfl : (pj lw).1 5 34 = some (.getfield 71, 3, 2))
theorem w5_37 {x y : Int32} : W (pj lw) 5 37 L (.int y :: .int x :: S) k n H Q ↔ (if y < x then W (pj lw) 5 40 L S k n H Q else W (pj lw) 5 42 L S k n H Q) := W_icmp_le (rfl : (pj lw).1 5 37 = some (.if_icmp .le 5, 3, 0)) rfl
theorem w5_40 : W (pj lw) 5 40 L S k n H Q ↔ W (pj lw) 5 41 L (.int 0 :: S) k n H Q := W_s (rfl : (pj lw).1 5 40 = some (.iconst 0, 1, 0)) rfl rfl rfl
theorem w5_41 {x : Int32} : W (pj lw) 5 41 L (.int x :: S) k n H Q ↔ ((x = 0 ∨ x = 1) ∧ Q (some (.int x)) H) := W_rz (rfl : (pj lw).1 5 41 = some (.ireturn, 1, 0)) rfl
theorem w5_42 {x : Int32} {l0 : Slot} : W (pj lw) 5 42 (l0 :: .val (.int x) :: L) S k n H Q ↔ W (pj lw) 5 43 (l0 :: .val (.int x) :: L) (.int x :: S) k n H Q := W_s (rfl : (pj lw).1 5 42 = some (.iload_n 1, 1, 0)) rfl rfl rfl
theorem w5_43 : W (pj lw) 5 43 L S k n H Q ↔ W (pj lw) 5 46 L (.int 128 :: S) k n H Q := W_s (rfl : (pj lw).1 5 43 = some (.sipush 128, 3, 0)) rfl rfl rfl
theorem w5_46 {x y : Int32} : W (pj lw) 5 46 L (.int y :: .int x :: S) k n H Q ↔ W (pj lw) 5 47 L (.int (x * y) :: S) k n H Q := W_s (rfl : (pj lw).1 5 46 = some (.imul, 1, 0)) rfl rfl rfl
theorem w5_47 {x : Int32} {l0 l1 : Slot} : W (pj lw) 5 47 (l0 :: l1 :: .val (.int x) :: L) S k n H Q ↔ W (pj lw) 5 48 (l0 :: l1 :: .val (.int x) :: L) (.int x :: S) k n H Q := W_s (rfl : (pj lw).1 5 47 = some (.iload_n 2, 1, 0)) rfl rfl rfl
theorem w5_48 {x y : Int32} : W (pj lw) 5 48 L (.int y :: .int x :: S) k n H Q ↔ W (pj lw) 5 49 L (.int (x + y) :: S) k n H Q := W_s (rfl : (pj lw).1 5 48 = some (.iadd, 1, 0)) rfl rfl rfl
theorem w5_49 {x : Int32} {l0 l1 l2 l3 l4 : Slot} : W (pj lw) 5 49 (l0 :: l1 :: l2 :: l3 :: l4 :: .unset :: L) (.int x :: S) k n H Q ↔ W (pj lw) 5 51 (l0 :: l1 :: l2 :: l3 :: l4 :: .val (.int x) :: L) S k n H Q := W_ist (rfl : (pj lw).1 5 49 = some (.istore 5, 2, 0)) rfl rfl
theorem w5_51 {x : Nat} : W (pj lw) 5 51 (.val (.ref x) :: L) S k n H Q ↔ W (pj lw) 5 52 (.val (.ref x) :: L) (.ref x :: S) k n H Q := W_s (rfl : (pj lw).1 5 51 = some (.aload_n 0, 1, 0)) rfl rfl rfl
theorem w5_52 {a : Nat} : W (pj lw) 5 52 L (.ref a :: S) k n H Q ↔ (isO H a = true ∧ W (pj lw) 5 55 L (fld H a 23 :: S) k n H Q) := W_getf (rfl : (pj lw).1 5 52 = some (.getfield 13, 3, 23))
theorem w5_55 {x : Int32} {l0 l1 l2 l3 l4 : Slot} : W (pj lw) 5 55 (l0 :: l1 :: l2 :: l3 :: l4 :: .val (.int x) :: L) S k n H Q ↔ W (pj lw) 5 57 (l0 :: l1 :: l2 :: l3 :: l4 :: .val (.int x) :: L) (.int x :: S) k n H Q := W_s (rfl : (pj lw).1 5 55 = some (.iload 5, 2, 0)) rfl rfl rfl
theorem w5_57 {i : Int32} {a : Nat} : W (pj lw) 5 57 L (.int i :: .ref a :: S) k n H Q ↔ ((inA H a .byte i = true ∨ inA H a .boolean i = true) ∧ W (pj lw) 5 58 L (elt H a i :: S) k n H Q) := W_baload (rfl : (pj lw).1 5 57 = some (.baload, 1, 0))
theorem w5_58 {x : Int32} : W (pj lw) 5 58 L (.int x :: S) k n H Q ↔ (if x = 0 then W (pj lw) 5 63 L S k n H Q else W (pj lw) 5 61 L S k n H Q) := W_if_eq (rfl : (pj lw).1 5 58 = some (.ifCond .eq 5, 3, 0)) rfl
theorem w5_61 : W (pj lw) 5 61 L S k n H Q ↔ W (pj lw) 5 62 L (.int 0 :: S) k n H Q := W_s (rfl : (pj lw).1 5 61 = some (.iconst 0, 1, 0)) rfl rfl rfl
theorem w5_62 {x : Int32} : W (pj lw) 5 62 L (.int x :: S) k n H Q ↔ ((x = 0 ∨ x = 1) ∧ Q (some (.int x)) H) := W_rz (rfl : (pj lw).1 5 62 = some (.ireturn, 1, 0)) rfl
theorem w5_63 {x : Nat} : W (pj lw) 5 63 (.val (.ref x) :: L) S k n H Q ↔ W (pj lw) 5 64 (.val (.ref x) :: L) (.ref x :: S) k n H Q := W_s (rfl : (pj lw).1 5 63 = some (.aload_n 0, 1, 0)) rfl rfl rfl
theorem w5_64 {x : Int32} {l0 l1 l2 l3 l4 : Slot} : W (pj lw) 5 64 (l0 :: l1 :: l2 :: l3 :: l4 :: .val (.int x) :: L) S k n H Q ↔ W (pj lw) 5 66 (l0 :: l1 :: l2 :: l3 :: l4 :: .val (.int x) :: L) (.int x :: S) k n H Q := W_s (rfl : (pj lw).1 5 64 = some (.iload 5, 2, 0)) rfl rfl rfl
theorem w5_66 {x : Int32} {l0 l1 l2 : Slot} : W (pj lw) 5 66 (l0 :: l1 :: l2 :: .val (.int x) :: L) S k n H Q ↔ W (pj lw) 5 67 (l0 :: l1 :: l2 :: .val (.int x) :: L) (.int x :: S) k n H Q := W_s (rfl : (pj lw).1 5 66 = some (.iload_n 3, 1, 0)) rfl rfl rfl
theorem w5_67 {x : Int32} {l0 l1 l2 l3 : Slot} : W (pj lw) 5 67 (l0 :: l1 :: l2 :: l3 :: .val (.int x) :: L) S k n H Q ↔ W (pj lw) 5 69 (l0 :: l1 :: l2 :: l3 :: .val (.int x) :: L) (.int x :: S) k n H Q := W_s (rfl : (pj lw).1 5 67 = some (.iload 4, 2, 0)) rfl rfl rfl
theorem w5_69 {a : Nat} {x0 : Int32} {x1 : Int32} {x2 : Int32} : W (pj lw) 5 69 L (.int x2 :: .int x1 :: .int x0 :: .ref a :: S) k n H Q ↔ ((isO H a = true ∧ cs S + (4 + 11) + 0 ≤ 15) ∧ Cl (pj lw) 6 [.ref a, .int x0, .int x1, .int x2] H (fun v H => W (pj lw) 5 72 L (v.toList ++ S) k n H Q)) := W_inst (as := [.int x0, .int x1, .int x2]) (rfl : (pj lw).1 5 69 = some (.invokevirtual 104, 3, 6)) rfl rfl rfl (Nat.le_of_ble_eq_true rfl) (Nat.le_of_ble_eq_true rfl) ⟨rfl, rfl⟩
theorem w5_72 : W (pj lw) 5 72 L S k n H Q ↔ W (pj lw) 5 73 L (.int 1 :: S) k n H Q := W_s (rfl : (pj lw).1 5 72 = some (.iconst 1, 1, 0)) rfl rfl rfl
theorem w5_73 {x : Int32} : W (pj lw) 5 73 L (.int x :: S) k n H Q ↔ ((x = 0 ∨ x = 1) ∧ Q (some (.int x)) H) := W_rz (rfl : (pj lw).1 5 73 = some (.ireturn, 1, 0)) rfl
theorem c6 {x0 : Nat} {x1 : Int32} {x2 : Int32} {x3 : Int32} : Cl (pj lw) 6 [.ref x0, .int x1, .int x2, .int x3] H Q ↔ W (pj lw) 6 0 [.val (.ref x0), .val (.int x1), .val (.int x2), .val (.int x3)] [] 0 0 H Q := cl_unf rfl
theorem w6_0 {x : Nat} : W (pj lw) 6 0 (.val (.ref x) :: L) S k n H Q ↔ W (pj lw) 6 1 (.val (.ref x) :: L) (.ref x :: S) k n H Q := W_s (rfl : (pj lw).1 6 0 = some (.aload_n 0, 1, 0)) rfl rfl rfl
theorem w6_1 {a : Nat} : W (pj lw) 6 1 L (.ref a :: S) k n H Q ↔ (isO H a = true ∧ W (pj lw) 6 4 L (fld H a 23 :: S) k n H Q) := W_getf (rfl : (pj lw).1 6 1 = some (.getfield 13, 3, 23))
theorem w6_4 {x : Int32} {l0 : Slot} : W (pj lw) 6 4 (l0 :: .val (.int x) :: L) S k n H Q ↔ W (pj lw) 6 5 (l0 :: .val (.int x) :: L) (.int x :: S) k n H Q := W_s (rfl : (pj lw).1 6 4 = some (.iload_n 1, 1, 0)) rfl rfl rfl
theorem w6_5 : W (pj lw) 6 5 L S k n H Q ↔ W (pj lw) 6 6 L (.int 1 :: S) k n H Q := W_s (rfl : (pj lw).1 6 5 = some (.iconst 1, 1, 0)) rfl rfl rfl
theorem w6_6 {x i : Int32} {a : Nat} : W (pj lw) 6 6 L (.int x :: .int i :: .ref a :: S) k n H Q ↔ (((inAw H a .byte i = true ∧ okv .byte (.int x) = true) ∨ (inAw H a .boolean i = true ∧ okv .boolean (.int x) = true)) ∧ W (pj lw) 6 7 L S k n (wr H a i.toNatClampNeg (.int x)) Q) := W_bastore (rfl : (pj lw).1 6 6 = some (.bastore, 1, 0))
theorem w6_7 {x : Nat} : W (pj lw) 6 7 (.val (.ref x) :: L) S k n H Q ↔ W (pj lw) 6 8 (.val (.ref x) :: L) (.ref x :: S) k n H Q := W_s (rfl : (pj lw).1 6 7 = some (.aload_n 0, 1, 0)) rfl rfl rfl
theorem w6_8 {a : Nat} : W (pj lw) 6 8 L (.ref a :: S) k n H Q ↔ (isO H a = true ∧ W (pj lw) 6 11 L (fld H a 24 :: S) k n H Q) := W_getf (rfl : (pj lw).1 6 8 = some (.getfield 16, 3, 24))
theorem w6_11 {x : Int32} {l0 : Slot} : W (pj lw) 6 11 (l0 :: .val (.int x) :: L) S k n H Q ↔ W (pj lw) 6 12 (l0 :: .val (.int x) :: L) (.int x :: S) k n H Q := W_s (rfl : (pj lw).1 6 11 = some (.iload_n 1, 1, 0)) rfl rfl rfl
theorem w6_12 {x : Int32} {l0 l1 : Slot} : W (pj lw) 6 12 (l0 :: l1 :: .val (.int x) :: L) S k n H Q ↔ W (pj lw) 6 13 (l0 :: l1 :: .val (.int x) :: L) (.int x :: S) k n H Q := W_s (rfl : (pj lw).1 6 12 = some (.iload_n 2, 1, 0)) rfl rfl rfl
theorem w6_13 {x i : Int32} {a : Nat} : W (pj lw) 6 13 L (.int x :: .int i :: .ref a :: S) k n H Q ↔ (inAw H a .int i = true ∧ W (pj lw) 6 14 L S k n (wr H a i.toNatClampNeg (.int x)) Q) := W_iastore (rfl : (pj lw).1 6 13 = some (.iastore, 1, 0))
theorem w6_14 {x : Nat} : W (pj lw) 6 14 (.val (.ref x) :: L) S k n H Q ↔ W (pj lw) 6 15 (.val (.ref x) :: L) (.ref x :: S) k n H Q := W_s (rfl : (pj lw).1 6 14 = some (.aload_n 0, 1, 0)) rfl rfl rfl
theorem w6_15 {a : Nat} : W (pj lw) 6 15 L (.ref a :: S) k n H Q ↔ (isO H a = true ∧ W (pj lw) 6 18 L (fld H a 25 :: S) k n H Q) := W_getf (rfl : (pj lw).1 6 15 = some (.getfield 20, 3, 25))
theorem w6_18 {x : Int32} {l0 : Slot} : W (pj lw) 6 18 (l0 :: .val (.int x) :: L) S k n H Q ↔ W (pj lw) 6 19 (l0 :: .val (.int x) :: L) (.int x :: S) k n H Q := W_s (rfl : (pj lw).1 6 18 = some (.iload_n 1, 1, 0)) rfl rfl rfl
theorem w6_19 {x : Nat} : W (pj lw) 6 19 (.val (.ref x) :: L) S k n H Q ↔ W (pj lw) 6 20 (.val (.ref x) :: L) (.ref x :: S) k n H Q := W_s (rfl : (pj lw).1 6 19 = some (.aload_n 0, 1, 0)) rfl rfl rfl
theorem w6_20 {a : Nat} : W (pj lw) 6 20 L (.ref a :: S) k n H Q ↔ (isO H a = true ∧ W (pj lw) 6 23 L (fld H a 13 :: S) k n H Q) := W_getf (rfl : (pj lw).1 6 20 = some (.getfield 108, 3, 13))
theorem w6_23 {x : Int64} : W (pj lw) 6 23 L (.long x :: S) k n H Q ↔ W (pj lw) 6 24 L (.int x.toInt32 :: S) k n H Q := W_s (rfl : (pj lw).1 6 23 = some (.l2i, 1, 0)) rfl rfl rfl
theorem w6_24 {x i : Int32} {a : Nat} : W (pj lw) 6 24 L (.int x :: .int i :: .ref a :: S) k n H Q ↔ (inAw H a .int i = true ∧ W (pj lw) 6 25 L S k n (wr H a i.toNatClampNeg (.int x)) Q) := W_iastore (rfl : (pj lw).1 6 24 = some (.iastore, 1, 0))
theorem w6_25 {x : Nat} : W (pj lw) 6 25 (.val (.ref x) :: L) S k n H Q ↔ W (pj lw) 6 26 (.val (.ref x) :: L) (.ref x :: S) k n H Q := W_s (rfl : (pj lw).1 6 25 = some (.aload_n 0, 1, 0)) rfl rfl rfl
theorem w6_26 {a : Nat} : W (pj lw) 6 26 L (.ref a :: S) k n H Q ↔ (isO H a = true ∧ W (pj lw) 6 29 L (fld H a 26 :: S) k n H Q) := W_getf (rfl : (pj lw).1 6 26 = some (.getfield 23, 3, 26))
theorem w6_29 {x : Int32} {l0 : Slot} : W (pj lw) 6 29 (l0 :: .val (.int x) :: L) S k n H Q ↔ W (pj lw) 6 30 (l0 :: .val (.int x) :: L) (.int x :: S) k n H Q := W_s (rfl : (pj lw).1 6 29 = some (.iload_n 1, 1, 0)) rfl rfl rfl
theorem w6_30 {x : Int32} {l0 l1 l2 : Slot} : W (pj lw) 6 30 (l0 :: l1 :: l2 :: .val (.int x) :: L) S k n H Q ↔ W (pj lw) 6 31 (l0 :: l1 :: l2 :: .val (.int x) :: L) (.int x :: S) k n H Q := W_s (rfl : (pj lw).1 6 30 = some (.iload_n 3, 1, 0)) rfl rfl rfl
theorem w6_31 {x i : Int32} {a : Nat} : W (pj lw) 6 31 L (.int x :: .int i :: .ref a :: S) k n H Q ↔ (((inAw H a .byte i = true ∧ okv .byte (.int x) = true) ∨ (inAw H a .boolean i = true ∧ okv .boolean (.int x) = true)) ∧ W (pj lw) 6 32 L S k n (wr H a i.toNatClampNeg (.int x)) Q) := W_bastore (rfl : (pj lw).1 6 31 = some (.bastore, 1, 0))
theorem w6_32 {x : Nat} : W (pj lw) 6 32 (.val (.ref x) :: L) S k n H Q ↔ W (pj lw) 6 33 (.val (.ref x) :: L) (.ref x :: S) k n H Q := W_s (rfl : (pj lw).1 6 32 = some (.aload_n 0, 1, 0)) rfl rfl rfl
theorem w6_33 {x : Nat} : W (pj lw) 6 33 L (.ref x :: S) k n H Q ↔ W (pj lw) 6 34 L (.ref x :: .ref x :: S) k n H Q := W_s (rfl : (pj lw).1 6 33 = some (.dup, 1, 0)) rfl rfl rfl
theorem w6_34 {a : Nat} : W (pj lw) 6 34 L (.ref a :: S) k n H Q ↔ (isO H a = true ∧ W (pj lw) 6 37 L (fld H a 13 :: S) k n H Q) := W_getf (rfl : (pj lw).1 6 34 = some (.getfield 108, 3, 13))
theorem w6_37 : W (pj lw) 6 37 L S k n H Q ↔ W (pj lw) 6 38 L (.long 1 :: S) k n H Q := W_s (rfl : (pj lw).1 6 37 = some (.lconst 1, 1, 0)) rfl rfl rfl
theorem w6_38 {x y : Int64} : W (pj lw) 6 38 L (.long y :: .long x :: S) k n H Q ↔ W (pj lw) 6 39 L (.long (x + y) :: S) k n H Q := W_s (rfl : (pj lw).1 6 38 = some (.ladd, 1, 0)) rfl rfl rfl
theorem w6_39 {a : Nat} {v : Value} : W (pj lw) 6 39 L (v :: .ref a :: S) k n H Q ↔ ((isOw H a = true ∧ okv (.long) v = true) ∧ W (pj lw) 6 42 L S k n (wr H a 13 v) Q) := W_putf (rfl : (pj lw).1 6 39 = some (.putfield 108, 3, 13))
theorem w6_42 {x : Nat} : W (pj lw) 6 42 (.val (.ref x) :: L) S k n H Q ↔ W (pj lw) 6 43 (.val (.ref x) :: L) (.ref x :: S) k n H Q := W_s (rfl : (pj lw).1 6 42 = some (.aload_n 0, 1, 0)) rfl rfl rfl
theorem w6_43 {x : Nat} : W (pj lw) 6 43 L (.ref x :: S) k n H Q ↔ W (pj lw) 6 44 L (.ref x :: .ref x :: S) k n H Q := W_s (rfl : (pj lw).1 6 43 = some (.dup, 1, 0)) rfl rfl rfl
theorem w6_44 {a : Nat} : W (pj lw) 6 44 L (.ref a :: S) k n H Q ↔ (isO H a = true ∧ W (pj lw) 6 47 L (fld H a 12 :: S) k n H Q) := W_getf (rfl : (pj lw).1 6 44 = some (.getfield 112, 3, 12))
theorem w6_47 : W (pj lw) 6 47 L S k n H Q ↔ W (pj lw) 6 48 L (.int 1 :: S) k n H Q := W_s (rfl : (pj lw).1 6 47 = some (.iconst 1, 1, 0)) rfl rfl rfl
theorem w6_48 {x y : Int32} : W (pj lw) 6 48 L (.int y :: .int x :: S) k n H Q ↔ W (pj lw) 6 49 L (.int (x + y) :: S) k n H Q := W_s (rfl : (pj lw).1 6 48 = some (.iadd, 1, 0)) rfl rfl rfl
theorem w6_49 {a : Nat} {v : Value} : W (pj lw) 6 49 L (v :: .ref a :: S) k n H Q ↔ ((isOw H a = true ∧ okv (.int) v = true) ∧ W (pj lw) 6 52 L S k n (wr H a 12 v) Q) := W_putf (rfl : (pj lw).1 6 49 = some (.putfield 112, 3, 12))
theorem w6_52 : W (pj lw) 6 52 L [] k n H Q ↔ Q none H := W_r (rfl : (pj lw).1 6 52 = some (.return_, 1, 0)) rfl
theorem c7 {x0 : Nat} {x1 : Int32} : Cl (pj lw) 7 [.ref x0, .int x1] H Q ↔ W (pj lw) 7 0 [.val (.ref x0), .val (.int x1), .unset] [] 0 0 H Q := cl_unf rfl
theorem w7_0 {x : Nat} : W (pj lw) 7 0 (.val (.ref x) :: L) S k n H Q ↔ W (pj lw) 7 1 (.val (.ref x) :: L) (.ref x :: S) k n H Q := W_s (rfl : (pj lw).1 7 0 = some (.aload_n 0, 1, 0)) rfl rfl rfl
theorem w7_1 {a : Nat} : W (pj lw) 7 1 L (.ref a :: S) k n H Q ↔ (isO H a = true ∧ W (pj lw) 7 4 L (fld H a 22 :: S) k n H Q) := W_getf (rfl : (pj lw).1 7 1 = some (.getfield 115, 3, 22))
theorem w7_4 : W (pj lw) 7 4 L S k n H Q ↔ W (pj lw) 7 6 L (.int 16 :: S) k n H Q := W_s (rfl : (pj lw).1 7 4 = some (.bipush 16, 2, 0)) rfl rfl rfl
theorem w7_6 {x y : Int32} : W (pj lw) 7 6 L (.int y :: .int x :: S) k n H Q ↔ (if x < y then W (pj lw) 7 11 L S k n H Q else W (pj lw) 7 9 L S k n H Q) := W_icmp_lt (rfl : (pj lw).1 7 6 = some (.if_icmp .lt 5, 3, 0)) rfl
theorem w7_9 : W (pj lw) 7 9 L S k n H Q ↔ W (pj lw) 7 10 L (.int 0 :: S) k n H Q := W_s (rfl : (pj lw).1 7 9 = some (.iconst 0, 1, 0)) rfl rfl rfl
theorem w7_10 {x : Int32} : W (pj lw) 7 10 L (.int x :: S) k n H Q ↔ ((x = 0 ∨ x = 1) ∧ Q (some (.int x)) H) := W_rz (rfl : (pj lw).1 7 10 = some (.ireturn, 1, 0)) rfl
theorem w7_11 {x : Nat} : W (pj lw) 7 11 (.val (.ref x) :: L) S k n H Q ↔ W (pj lw) 7 12 (.val (.ref x) :: L) (.ref x :: S) k n H Q := W_s (rfl : (pj lw).1 7 11 = some (.aload_n 0, 1, 0)) rfl rfl rfl
theorem w7_12 {a : Nat} : W (pj lw) 7 12 L (.ref a :: S) k n H Q ↔ (isO H a = true ∧ W (pj lw) 7 15 L (fld H a 21 :: S) k n H Q) := W_getf (rfl : (pj lw).1 7 12 = some (.getfield 118, 3, 21))
theorem w7_15 {x : Nat} : W (pj lw) 7 15 (.val (.ref x) :: L) S k n H Q ↔ W (pj lw) 7 16 (.val (.ref x) :: L) (.ref x :: S) k n H Q := W_s (rfl : (pj lw).1 7 15 = some (.aload_n 0, 1, 0)) rfl rfl rfl
theorem w7_16 {a : Nat} : W (pj lw) 7 16 L (.ref a :: S) k n H Q ↔ (isO H a = true ∧ W (pj lw) 7 19 L (fld H a 22 :: S) k n H Q) := W_getf (rfl : (pj lw).1 7 16 = some (.getfield 115, 3, 22))
theorem w7_19 {x y : Int32} : W (pj lw) 7 19 L (.int y :: .int x :: S) k n H Q ↔ W (pj lw) 7 20 L (.int (x + y) :: S) k n H Q := W_s (rfl : (pj lw).1 7 19 = some (.iadd, 1, 0)) rfl rfl rfl
theorem w7_20 : W (pj lw) 7 20 L S k n H Q ↔ W (pj lw) 7 22 L (.int 16 :: S) k n H Q := W_s (rfl : (pj lw).1 7 20 = some (.bipush 16, 2, 0)) rfl rfl rfl
theorem w7_22 {x y : Int32} : W (pj lw) 7 22 L (.int y :: .int x :: S) k n H Q ↔ (¬ y = 0 ∧ W (pj lw) 7 23 L (.int (x % y) :: S) k n H Q) := W_irem (rfl : (pj lw).1 7 22 = some (.irem, 1, 0))
theorem w7_23 {x : Int32} {l0 l1 : Slot} : W (pj lw) 7 23 (l0 :: l1 :: .unset :: L) (.int x :: S) k n H Q ↔ W (pj lw) 7 24 (l0 :: l1 :: .val (.int x) :: L) S k n H Q := W_istn (rfl : (pj lw).1 7 23 = some (.istore_n 2, 1, 0)) rfl rfl
theorem w7_24 {x : Nat} : W (pj lw) 7 24 (.val (.ref x) :: L) S k n H Q ↔ W (pj lw) 7 25 (.val (.ref x) :: L) (.ref x :: S) k n H Q := W_s (rfl : (pj lw).1 7 24 = some (.aload_n 0, 1, 0)) rfl rfl rfl
theorem w7_25 {a : Nat} : W (pj lw) 7 25 L (.ref a :: S) k n H Q ↔ (isO H a = true ∧ W (pj lw) 7 28 L (fld H a 20 :: S) k n H Q) := W_getf (rfl : (pj lw).1 7 25 = some (.getfield 7, 3, 20))
theorem w7_28 {x : Int32} {l0 l1 : Slot} : W (pj lw) 7 28 (l0 :: l1 :: .val (.int x) :: L) S k n H Q ↔ W (pj lw) 7 29 (l0 :: l1 :: .val (.int x) :: L) (.int x :: S) k n H Q := W_s (rfl : (pj lw).1 7 28 = some (.iload_n 2, 1, 0)) rfl rfl rfl
theorem w7_29 {x : Int32} {l0 : Slot} : W (pj lw) 7 29 (l0 :: .val (.int x) :: L) S k n H Q ↔ W (pj lw) 7 30 (l0 :: .val (.int x) :: L) (.int x :: S) k n H Q := W_s (rfl : (pj lw).1 7 29 = some (.iload_n 1, 1, 0)) rfl rfl rfl
theorem w7_30 {x i : Int32} {a : Nat} : W (pj lw) 7 30 L (.int x :: .int i :: .ref a :: S) k n H Q ↔ (((inAw H a .byte i = true ∧ okv .byte (.int x) = true) ∨ (inAw H a .boolean i = true ∧ okv .boolean (.int x) = true)) ∧ W (pj lw) 7 31 L S k n (wr H a i.toNatClampNeg (.int x)) Q) := W_bastore (rfl : (pj lw).1 7 30 = some (.bastore, 1, 0))
theorem w7_31 {x : Nat} : W (pj lw) 7 31 (.val (.ref x) :: L) S k n H Q ↔ W (pj lw) 7 32 (.val (.ref x) :: L) (.ref x :: S) k n H Q := W_s (rfl : (pj lw).1 7 31 = some (.aload_n 0, 1, 0)) rfl rfl rfl
theorem w7_32 {x : Nat} : W (pj lw) 7 32 L (.ref x :: S) k n H Q ↔ W (pj lw) 7 33 L (.ref x :: .ref x :: S) k n H Q := W_s (rfl : (pj lw).1 7 32 = some (.dup, 1, 0)) rfl rfl rfl
theorem w7_33 {a : Nat} : W (pj lw) 7 33 L (.ref a :: S) k n H Q ↔ (isO H a = true ∧ W (pj lw) 7 36 L (fld H a 22 :: S) k n H Q) := W_getf (rfl : (pj lw).1 7 33 = some (.getfield 115, 3, 22))
theorem w7_36 : W (pj lw) 7 36 L S k n H Q ↔ W (pj lw) 7 37 L (.int 1 :: S) k n H Q := W_s (rfl : (pj lw).1 7 36 = some (.iconst 1, 1, 0)) rfl rfl rfl
theorem w7_37 {x y : Int32} : W (pj lw) 7 37 L (.int y :: .int x :: S) k n H Q ↔ W (pj lw) 7 38 L (.int (x + y) :: S) k n H Q := W_s (rfl : (pj lw).1 7 37 = some (.iadd, 1, 0)) rfl rfl rfl
theorem w7_38 {a : Nat} {v : Value} : W (pj lw) 7 38 L (v :: .ref a :: S) k n H Q ↔ ((isOw H a = true ∧ okv (.int) v = true) ∧ W (pj lw) 7 41 L S k n (wr H a 22 v) Q) := W_putf (rfl : (pj lw).1 7 38 = some (.putfield 115, 3, 22))
theorem w7_41 : W (pj lw) 7 41 L S k n H Q ↔ W (pj lw) 7 42 L (.int 1 :: S) k n H Q := W_s (rfl : (pj lw).1 7 41 = some (.iconst 1, 1, 0)) rfl rfl rfl
theorem w7_42 {x : Int32} : W (pj lw) 7 42 L (.int x :: S) k n H Q ↔ ((x = 0 ∨ x = 1) ∧ Q (some (.int x)) H) := W_rz (rfl : (pj lw).1 7 42 = some (.ireturn, 1, 0)) rfl
theorem c8 {x0 : Nat} {x1 : Int32} : Cl (pj lw) 8 [.ref x0, .int x1] H Q ↔ W (pj lw) 8 0 [.val (.ref x0), .val (.int x1), .unset] [] 0 0 H Q := cl_unf rfl
theorem w8_0 {x : Int32} {l0 : Slot} : W (pj lw) 8 0 (l0 :: .val (.int x) :: L) S k n H Q ↔ W (pj lw) 8 1 (l0 :: .val (.int x) :: L) (.int x :: S) k n H Q := W_s (rfl : (pj lw).1 8 0 = some (.iload_n 1, 1, 0)) rfl rfl rfl
theorem w8_1 : W (pj lw) 8 1 L S k n H Q ↔ W (pj lw) 8 2 L (.int 1 :: S) k n H Q := W_s (rfl : (pj lw).1 8 1 = some (.iconst 1, 1, 0)) rfl rfl rfl
theorem w8_2 {x y : Int32} : W (pj lw) 8 2 L (.int y :: .int x :: S) k n H Q ↔ (if x < y then W (pj lw) 8 11 L S k n H Q else W (pj lw) 8 5 L S k n H Q) := W_icmp_lt (rfl : (pj lw).1 8 2 = some (.if_icmp .lt 9, 3, 0)) rfl
theorem w8_5 {x : Int32} {l0 : Slot} : W (pj lw) 8 5 (l0 :: .val (.int x) :: L) S k n H Q ↔ W (pj lw) 8 6 (l0 :: .val (.int x) :: L) (.int x :: S) k n H Q := W_s (rfl : (pj lw).1 8 5 = some (.iload_n 1, 1, 0)) rfl rfl rfl
theorem w8_6 : W (pj lw) 8 6 L S k n H Q ↔ W (pj lw) 8 8 L (.int 16 :: S) k n H Q := W_s (rfl : (pj lw).1 8 6 = some (.bipush 16, 2, 0)) rfl rfl rfl
theorem w8_8 {x y : Int32} : W (pj lw) 8 8 L (.int y :: .int x :: S) k n H Q ↔ (if y < x then W (pj lw) 8 11 L S k n H Q else W (pj lw) 8 13 L S k n H Q) := W_icmp_le (rfl : (pj lw).1 8 8 = some (.if_icmp .le 5, 3, 0)) rfl
theorem w8_11 : W (pj lw) 8 11 L S k n H Q ↔ W (pj lw) 8 12 L (.int (-1) :: S) k n H Q := W_s (rfl : (pj lw).1 8 11 = some (.iconst (-1), 1, 0)) rfl rfl rfl
theorem w8_12 {x : Int32} : W (pj lw) 8 12 L (.int x :: S) k n H Q ↔ Q (some (.int x)) H := W_r (rfl : (pj lw).1 8 12 = some (.ireturn, 1, 0)) rfl
theorem w8_13 : W (pj lw) 8 13 L S k n H Q ↔ W (pj lw) 8 14 L (.int 0 :: S) k n H Q := W_s (rfl : (pj lw).1 8 13 = some (.iconst 0, 1, 0)) rfl rfl rfl
theorem w8_14 {x : Int32} {l0 l1 : Slot} : W (pj lw) 8 14 (l0 :: l1 :: .unset :: L) (.int x :: S) k n H Q ↔ W (pj lw) 8 15 (l0 :: l1 :: .val (.int x) :: L) S k n H Q := W_istn (rfl : (pj lw).1 8 14 = some (.istore_n 2, 1, 0)) rfl rfl
theorem w8_15 {x : Int32} {l0 l1 : Slot} : W (pj lw) 8 15 (l0 :: l1 :: .val (.int x) :: L) S k n H Q ↔ W (pj lw) 8 16 (l0 :: l1 :: .val (.int x) :: L) (.int x :: S) k n H Q := W_s (rfl : (pj lw).1 8 15 = some (.iload_n 2, 1, 0)) rfl rfl rfl
theorem w8_16 {x : Int32} {l0 : Slot} : W (pj lw) 8 16 (l0 :: .val (.int x) :: L) S k n H Q ↔ W (pj lw) 8 17 (l0 :: .val (.int x) :: L) (.int x :: S) k n H Q := W_s (rfl : (pj lw).1 8 16 = some (.iload_n 1, 1, 0)) rfl rfl rfl
theorem w8_17 {x y : Int32} : W (pj lw) 8 17 L (.int y :: .int x :: S) k n H Q ↔ (if x < y then W (pj lw) 8 20 L S k n H Q else W (pj lw) 8 30 L S k n H Q) := W_icmp_ge (rfl : (pj lw).1 8 17 = some (.if_icmp .ge 13, 3, 0)) rfl
theorem w8_20 {x : Nat} : W (pj lw) 8 20 (.val (.ref x) :: L) S k n H Q ↔ W (pj lw) 8 21 (.val (.ref x) :: L) (.ref x :: S) k n H Q := W_s (rfl : (pj lw).1 8 20 = some (.aload_n 0, 1, 0)) rfl rfl rfl
theorem w8_21 {a : Nat} : W (pj lw) 8 21 L (.ref a :: S) k n H Q ↔ ((isO H a = true ∧ cs S + (1 + 11) + 81 ≤ 93) ∧ Cl (pj lw) 9 [.ref a] H (fun v H => W (pj lw) 8 24 L (v.toList ++ S) k n H Q)) := W_inst (as := []) (rfl : (pj lw).1 8 21 = some (.invokevirtual 121, 3, 9)) rfl rfl rfl (Nat.le_of_ble_eq_true rfl) (Nat.le_of_ble_eq_true rfl) ⟨rfl, rfl⟩
theorem w8_24 {x : Int32} {l0 l1 : Slot} : W (pj lw) 8 24 (l0 :: l1 :: .val (.int x) :: L) S k n H Q ↔ W (pj lw) 8 27 (l0 :: l1 :: .val (.int (x + 1)) :: L) S k n H Q := W_s (rfl : (pj lw).1 8 24 = some (.iinc 2 1, 3, 0)) rfl rfl rfl
theorem w8_27 : W (pj lw) 8 27 L S k n H Q ↔ W (pj lw) 8 15 L S k n H Q := W_goto (rfl : (pj lw).1 8 27 = some (.goto (-12), 3, 0)) rfl
theorem w8_30 {x : Nat} : W (pj lw) 8 30 (.val (.ref x) :: L) S k n H Q ↔ W (pj lw) 8 31 (.val (.ref x) :: L) (.ref x :: S) k n H Q := W_s (rfl : (pj lw).1 8 30 = some (.aload_n 0, 1, 0)) rfl rfl rfl
theorem w8_31 {a : Nat} : W (pj lw) 8 31 L (.ref a :: S) k n H Q ↔ (isO H a = true ∧ W (pj lw) 8 34 L (fld H a 12 :: S) k n H Q) := W_getf (rfl : (pj lw).1 8 31 = some (.getfield 112, 3, 12))
theorem w8_34 {x : Int32} : W (pj lw) 8 34 L (.int x :: S) k n H Q ↔ Q (some (.int x)) H := W_r (rfl : (pj lw).1 8 34 = some (.ireturn, 1, 0)) rfl
theorem c9 {x0 : Nat} : Cl (pj lw) 9 [.ref x0] H Q ↔ W (pj lw) 9 0 [.val (.ref x0)] [] 0 0 H Q := cl_unf rfl
theorem w9_0 {x : Nat} : W (pj lw) 9 0 (.val (.ref x) :: L) S k n H Q ↔ W (pj lw) 9 1 (.val (.ref x) :: L) (.ref x :: S) k n H Q := W_s (rfl : (pj lw).1 9 0 = some (.aload_n 0, 1, 0)) rfl rfl rfl
theorem w9_1 {x : Nat} : W (pj lw) 9 1 (.val (.ref x) :: L) S k n H Q ↔ W (pj lw) 9 2 (.val (.ref x) :: L) (.ref x :: S) k n H Q := W_s (rfl : (pj lw).1 9 1 = some (.aload_n 0, 1, 0)) rfl rfl rfl
theorem w9_2 {a : Nat} : W (pj lw) 9 2 L (.ref a :: S) k n H Q ↔ ((isO H a = true ∧ cs S + (2 + 11) + 0 ≤ 81) ∧ Cl (pj lw) 10 [.ref a] H (fun v H => W (pj lw) 9 5 L (v.toList ++ S) k n H Q)) := W_inst (as := []) (rfl : (pj lw).1 9 2 = some (.invokevirtual 124, 3, 10)) rfl rfl rfl (Nat.le_of_ble_eq_true rfl) (Nat.le_of_ble_eq_true rfl) ⟨rfl, rfl⟩
theorem w9_5 {a : Nat} {v : Value} : W (pj lw) 9 5 L (v :: .ref a :: S) k n H Q ↔ ((isOw H a = true ∧ okv (.boolean) v = true) ∧ W (pj lw) 9 8 L S k n (wr H a 10 v) Q) := W_putf (rfl : (pj lw).1 9 5 = some (.putfield 128, 3, 10))
theorem w9_8 {x : Nat} : W (pj lw) 9 8 (.val (.ref x) :: L) S k n H Q ↔ W (pj lw) 9 9 (.val (.ref x) :: L) (.ref x :: S) k n H Q := W_s (rfl : (pj lw).1 9 8 = some (.aload_n 0, 1, 0)) rfl rfl rfl
theorem w9_9 {a : Nat} : W (pj lw) 9 9 L (.ref a :: S) k n H Q ↔ ((isO H a = true ∧ cs S + (3 + 11) + 67 ≤ 81) ∧ Cl (pj lw) 17 [.ref a] H (fun v H => W (pj lw) 9 12 L (v.toList ++ S) k n H Q)) := W_inst (as := []) (rfl : (pj lw).1 9 9 = some (.invokevirtual 132, 3, 17)) rfl rfl rfl (Nat.le_of_ble_eq_true rfl) (Nat.le_of_ble_eq_true rfl) ⟨rfl, rfl⟩
theorem w9_12 {x : Nat} : W (pj lw) 9 12 (.val (.ref x) :: L) S k n H Q ↔ W (pj lw) 9 13 (.val (.ref x) :: L) (.ref x :: S) k n H Q := W_s (rfl : (pj lw).1 9 12 = some (.aload_n 0, 1, 0)) rfl rfl rfl
theorem w9_13 {a : Nat} : W (pj lw) 9 13 L (.ref a :: S) k n H Q ↔ ((isO H a = true ∧ cs S + (3 + 11) + 51 ≤ 81) ∧ Cl (pj lw) 21 [.ref a] H (fun v H => W (pj lw) 9 16 L (v.toList ++ S) k n H Q)) := W_inst (as := []) (rfl : (pj lw).1 9 13 = some (.invokevirtual 135, 3, 21)) rfl rfl rfl (Nat.le_of_ble_eq_true rfl) (Nat.le_of_ble_eq_true rfl) ⟨rfl, rfl⟩
theorem w9_16 {x : Nat} : W (pj lw) 9 16 (.val (.ref x) :: L) S k n H Q ↔ W (pj lw) 9 17 (.val (.ref x) :: L) (.ref x :: S) k n H Q := W_s (rfl : (pj lw).1 9 16 = some (.aload_n 0, 1, 0)) rfl rfl rfl
theorem w9_17 {a : Nat} : W (pj lw) 9 17 L (.ref a :: S) k n H Q ↔ ((isO H a = true ∧ cs S + (3 + 11) + 50 ≤ 81) ∧ Cl (pj lw) 23 [.ref a] H (fun v H => W (pj lw) 9 20 L (v.toList ++ S) k n H Q)) := W_inst (as := []) (rfl : (pj lw).1 9 17 = some (.invokevirtual 138, 3, 23)) rfl rfl rfl (Nat.le_of_ble_eq_true rfl) (Nat.le_of_ble_eq_true rfl) ⟨rfl, rfl⟩
theorem w9_20 {x : Nat} : W (pj lw) 9 20 (.val (.ref x) :: L) S k n H Q ↔ W (pj lw) 9 21 (.val (.ref x) :: L) (.ref x :: S) k n H Q := W_s (rfl : (pj lw).1 9 20 = some (.aload_n 0, 1, 0)) rfl rfl rfl
theorem w9_21 {a : Nat} : W (pj lw) 9 21 L (.ref a :: S) k n H Q ↔ ((isO H a = true ∧ cs S + (2 + 11) + 31 ≤ 81) ∧ Cl (pj lw) 27 [.ref a] H (fun v H => W (pj lw) 9 24 L (v.toList ++ S) k n H Q)) := W_inst (as := []) (rfl : (pj lw).1 9 21 = some (.invokevirtual 141, 3, 27)) rfl rfl rfl (Nat.le_of_ble_eq_true rfl) (Nat.le_of_ble_eq_true rfl) ⟨rfl, rfl⟩
theorem w9_24 {x : Nat} : W (pj lw) 9 24 (.val (.ref x) :: L) S k n H Q ↔ W (pj lw) 9 25 (.val (.ref x) :: L) (.ref x :: S) k n H Q := W_s (rfl : (pj lw).1 9 24 = some (.aload_n 0, 1, 0)) rfl rfl rfl
theorem w9_25 {a : Nat} : W (pj lw) 9 25 L (.ref a :: S) k n H Q ↔ ((isO H a = true ∧ cs S + (5 + 11) + 0 ≤ 81) ∧ Cl (pj lw) 28 [.ref a] H (fun v H => W (pj lw) 9 28 L (v.toList ++ S) k n H Q)) := W_inst (as := []) (rfl : (pj lw).1 9 25 = some (.invokevirtual 144, 3, 28)) rfl rfl rfl (Nat.le_of_ble_eq_true rfl) (Nat.le_of_ble_eq_true rfl) ⟨rfl, rfl⟩
theorem w9_28 {x : Nat} : W (pj lw) 9 28 (.val (.ref x) :: L) S k n H Q ↔ W (pj lw) 9 29 (.val (.ref x) :: L) (.ref x :: S) k n H Q := W_s (rfl : (pj lw).1 9 28 = some (.aload_n 0, 1, 0)) rfl rfl rfl
theorem w9_29 {x : Nat} : W (pj lw) 9 29 L (.ref x :: S) k n H Q ↔ W (pj lw) 9 30 L (.ref x :: .ref x :: S) k n H Q := W_s (rfl : (pj lw).1 9 29 = some (.dup, 1, 0)) rfl rfl rfl
theorem w9_30 {a : Nat} : W (pj lw) 9 30 L (.ref a :: S) k n H Q ↔ (isO H a = true ∧ W (pj lw) 9 33 L (fld H a 11 :: S) k n H Q) := W_getf (rfl : (pj lw).1 9 30 = some (.getfield 147, 3, 11))
theorem w9_33 : W (pj lw) 9 33 L S k n H Q ↔ W (pj lw) 9 34 L (.long 1 :: S) k n H Q := W_s (rfl : (pj lw).1 9 33 = some (.lconst 1, 1, 0)) rfl rfl rfl
theorem w9_34 {x y : Int64} : W (pj lw) 9 34 L (.long y :: .long x :: S) k n H Q ↔ W (pj lw) 9 35 L (.long (x + y) :: S) k n H Q := W_s (rfl : (pj lw).1 9 34 = some (.ladd, 1, 0)) rfl rfl rfl
theorem w9_35 {a : Nat} {v : Value} : W (pj lw) 9 35 L (v :: .ref a :: S) k n H Q ↔ ((isOw H a = true ∧ okv (.long) v = true) ∧ W (pj lw) 9 38 L S k n (wr H a 11 v) Q) := W_putf (rfl : (pj lw).1 9 35 = some (.putfield 147, 3, 11))
theorem w9_38 : W (pj lw) 9 38 L [] k n H Q ↔ Q none H := W_r (rfl : (pj lw).1 9 38 = some (.return_, 1, 0)) rfl
theorem c10 {x0 : Nat} : Cl (pj lw) 10 [.ref x0] H Q ↔ W (pj lw) 10 0 [.val (.ref x0), .unset] [] 0 0 H Q := cl_unf rfl
theorem w10_0 {x : Nat} : W (pj lw) 10 0 (.val (.ref x) :: L) S k n H Q ↔ W (pj lw) 10 1 (.val (.ref x) :: L) (.ref x :: S) k n H Q := W_s (rfl : (pj lw).1 10 0 = some (.aload_n 0, 1, 0)) rfl rfl rfl
theorem w10_1 {a : Nat} : W (pj lw) 10 1 L (.ref a :: S) k n H Q ↔ (isO H a = true ∧ W (pj lw) 10 4 L (fld H a 4 :: S) k n H Q) := W_getf (rfl : (pj lw).1 10 1 = some (.getfield 78, 3, 4))
theorem w10_4 {x : Int32} : W (pj lw) 10 4 L (.int x :: S) k n H Q ↔ (if x < 0 then W (pj lw) 10 7 L S k n H Q else W (pj lw) 10 9 L S k n H Q) := W_if_ge (rfl : (pj lw).1 10 4 = some (.ifCond .ge 5, 3, 0)) rfl
theorem w10_7 : W (pj lw) 10 7 L S k n H Q ↔ W (pj lw) 10 8 L (.int 0 :: S) k n H Q := W_s (rfl : (pj lw).1 10 7 = some (.iconst 0, 1, 0)) rfl rfl rfl
theorem w10_8 {x : Int32} : W (pj lw) 10 8 L (.int x :: S) k n H Q ↔ ((x = 0 ∨ x = 1) ∧ Q (some (.int x)) H) := W_rz (rfl : (pj lw).1 10 8 = some (.ireturn, 1, 0)) rfl
theorem w10_9 {x : Nat} : W (pj lw) 10 9 (.val (.ref x) :: L) S k n H Q ↔ W (pj lw) 10 10 (.val (.ref x) :: L) (.ref x :: S) k n H Q := W_s (rfl : (pj lw).1 10 9 = some (.aload_n 0, 1, 0)) rfl rfl rfl
theorem w10_10 {a : Nat} : W (pj lw) 10 10 L (.ref a :: S) k n H Q ↔ (isO H a = true ∧ W (pj lw) 10 13 L (fld H a 5 :: S) k n H Q) := W_getf (rfl : (pj lw).1 10 10 = some (.getfield 98, 3, 5))
theorem w10_13 {x : Nat} : W (pj lw) 10 13 (.val (.ref x) :: L) S k n H Q ↔ W (pj lw) 10 14 (.val (.ref x) :: L) (.ref x :: S) k n H Q := W_s (rfl : (pj lw).1 10 13 = some (.aload_n 0, 1, 0)) rfl rfl rfl
theorem w10_14 {a : Nat} : W (pj lw) 10 14 L (.ref a :: S) k n H Q ↔ (isO H a = true ∧ W (pj lw) 10 17 L (fld H a 6 :: S) k n H Q) := W_getf (rfl : (pj lw).1 10 14 = some (.getfield 101, 3, 6))
theorem w10_17 {x y : Int32} : W (pj lw) 10 17 L (.int y :: .int x :: S) k n H Q ↔ W (pj lw) 10 18 L (.int (x + y) :: S) k n H Q := W_s (rfl : (pj lw).1 10 17 = some (.iadd, 1, 0)) rfl rfl rfl
theorem w10_18 {x : Int32} {l0 : Slot} : W (pj lw) 10 18 (l0 :: .unset :: L) (.int x :: S) k n H Q ↔ W (pj lw) 10 19 (l0 :: .val (.int x) :: L) S k n H Q := W_istn (rfl : (pj lw).1 10 18 = some (.istore_n 1, 1, 0)) rfl rfl
theorem w10_19 {x : Int32} {l0 : Slot} : W (pj lw) 10 19 (l0 :: .val (.int x) :: L) S k n H Q ↔ W (pj lw) 10 20 (l0 :: .val (.int x) :: L) (.int x :: S) k n H Q := W_s (rfl : (pj lw).1 10 19 = some (.iload_n 1, 1, 0)) rfl rfl rfl
theorem w10_20 {x : Int32} : W (pj lw) 10 20 L (.int x :: S) k n H Q ↔ (if 0 < x then W (pj lw) 10 25 L S k n H Q else W (pj lw) 10 23 L S k n H Q) := W_if_gt (rfl : (pj lw).1 10 20 = some (.ifCond .gt 5, 3, 0)) rfl
theorem w10_23 : W (pj lw) 10 23 L S k n H Q ↔ W (pj lw) 10 24 L (.int 0 :: S) k n H Q := W_s (rfl : (pj lw).1 10 23 = some (.iconst 0, 1, 0)) rfl rfl rfl
theorem w10_24 {x : Int32} : W (pj lw) 10 24 L (.int x :: S) k n H Q ↔ ((x = 0 ∨ x = 1) ∧ Q (some (.int x)) H) := W_rz (rfl : (pj lw).1 10 24 = some (.ireturn, 1, 0)) rfl
theorem w10_25 {x : Nat} : W (pj lw) 10 25 (.val (.ref x) :: L) S k n H Q ↔ W (pj lw) 10 26 (.val (.ref x) :: L) (.ref x :: S) k n H Q := W_s (rfl : (pj lw).1 10 25 = some (.aload_n 0, 1, 0)) rfl rfl rfl
theorem w10_26 {a : Nat} : W (pj lw) 10 26 L (.ref a :: S) k n H Q ↔ (isO H a = true ∧ W (pj lw) 10 29 L (fld H a 11 :: S) k n H Q) := W_getf (rfl : (pj lw).1 10 26 = some (.getfield 147, 3, 11))
theorem w10_29 {x : Int32} {l0 : Slot} : W (pj lw) 10 29 (l0 :: .val (.int x) :: L) S k n H Q ↔ W (pj lw) 10 30 (l0 :: .val (.int x) :: L) (.int x :: S) k n H Q := W_s (rfl : (pj lw).1 10 29 = some (.iload_n 1, 1, 0)) rfl rfl rfl
theorem w10_30 {x : Int32} : W (pj lw) 10 30 L (.int x :: S) k n H Q ↔ W (pj lw) 10 31 L (.long x.toInt64 :: S) k n H Q := W_s (rfl : (pj lw).1 10 30 = some (.i2l, 1, 0)) rfl rfl rfl
theorem w10_31 {x y : Int64} : W (pj lw) 10 31 L (.long y :: .long x :: S) k n H Q ↔ (¬ y = 0 ∧ W (pj lw) 10 32 L (.long (x % y) :: S) k n H Q) := W_lrem (rfl : (pj lw).1 10 31 = some (.lrem, 1, 0))
theorem w10_32 {x : Nat} : W (pj lw) 10 32 (.val (.ref x) :: L) S k n H Q ↔ W (pj lw) 10 33 (.val (.ref x) :: L) (.ref x :: S) k n H Q := W_s (rfl : (pj lw).1 10 32 = some (.aload_n 0, 1, 0)) rfl rfl rfl
theorem w10_33 {a : Nat} : W (pj lw) 10 33 L (.ref a :: S) k n H Q ↔ (isO H a = true ∧ W (pj lw) 10 36 L (fld H a 5 :: S) k n H Q) := W_getf (rfl : (pj lw).1 10 33 = some (.getfield 98, 3, 5))
theorem w10_36 {x : Int32} : W (pj lw) 10 36 L (.int x :: S) k n H Q ↔ W (pj lw) 10 37 L (.long x.toInt64 :: S) k n H Q := W_s (rfl : (pj lw).1 10 36 = some (.i2l, 1, 0)) rfl rfl rfl
theorem w10_37 {x y : Int64} : W (pj lw) 10 37 L (.long y :: .long x :: S) k n H Q ↔ W (pj lw) 10 38 L (.int (Jvm.Free.XT.cmpL x y) :: S) k n H Q := W_s (rfl : (pj lw).1 10 37 = some (.lcmp, 1, 0)) rfl rfl rfl
theorem w10_38 {x : Int32} : W (pj lw) 10 38 L (.int x :: S) k n H Q ↔ (if x < 0 then W (pj lw) 10 45 L S k n H Q else W (pj lw) 10 41 L S k n H Q) := W_if_lt (rfl : (pj lw).1 10 38 = some (.ifCond .lt 7, 3, 0)) rfl
theorem w10_41 : W (pj lw) 10 41 L S k n H Q ↔ W (pj lw) 10 42 L (.int 1 :: S) k n H Q := W_s (rfl : (pj lw).1 10 41 = some (.iconst 1, 1, 0)) rfl rfl rfl
theorem w10_42 : W (pj lw) 10 42 L S k n H Q ↔ W (pj lw) 10 46 L S k n H Q := W_goto (rfl : (pj lw).1 10 42 = some (.goto 4, 3, 0)) rfl
theorem w10_45 : W (pj lw) 10 45 L S k n H Q ↔ W (pj lw) 10 46 L (.int 0 :: S) k n H Q := W_s (rfl : (pj lw).1 10 45 = some (.iconst 0, 1, 0)) rfl rfl rfl
theorem w10_46 {x : Int32} : W (pj lw) 10 46 L (.int x :: S) k n H Q ↔ ((x = 0 ∨ x = 1) ∧ Q (some (.int x)) H) := W_rz (rfl : (pj lw).1 10 46 = some (.ireturn, 1, 0)) rfl
theorem c11 {x0 : Nat} {x1 : Int32} {x2 : Int32} {x3 : Int32} : Cl (pj lw) 11 [.ref x0, .int x1, .int x2, .int x3] H Q ↔ W (pj lw) 11 0 [.val (.ref x0), .val (.int x1), .val (.int x2), .val (.int x3)] [] 0 0 H Q := cl_unf rfl
theorem w11_0 {x : Int32} {l0 : Slot} : W (pj lw) 11 0 (l0 :: .val (.int x) :: L) S k n H Q ↔ W (pj lw) 11 1 (l0 :: .val (.int x) :: L) (.int x :: S) k n H Q := W_s (rfl : (pj lw).1 11 0 = some (.iload_n 1, 1, 0)) rfl rfl rfl
theorem w11_1 {x : Int32} {l0 l1 : Slot} : W (pj lw) 11 1 (l0 :: l1 :: .val (.int x) :: L) S k n H Q ↔ W (pj lw) 11 2 (l0 :: l1 :: .val (.int x) :: L) (.int x :: S) k n H Q := W_s (rfl : (pj lw).1 11 1 = some (.iload_n 2, 1, 0)) rfl rfl rfl
theorem w11_2 {x y : Int32} : W (pj lw) 11 2 L (.int y :: .int x :: S) k n H Q ↔ (if x < y then W (pj lw) 11 5 L S k n H Q else W (pj lw) 11 7 L S k n H Q) := W_icmp_ge (rfl : (pj lw).1 11 2 = some (.if_icmp .ge 5, 3, 0)) rfl
theorem w11_5 {x : Int32} {l0 l1 : Slot} : W (pj lw) 11 5 (l0 :: l1 :: .val (.int x) :: L) S k n H Q ↔ W (pj lw) 11 6 (l0 :: l1 :: .val (.int x) :: L) (.int x :: S) k n H Q := W_s (rfl : (pj lw).1 11 5 = some (.iload_n 2, 1, 0)) rfl rfl rfl
theorem w11_6 {x : Int32} : W (pj lw) 11 6 L (.int x :: S) k n H Q ↔ Q (some (.int x)) H := W_r (rfl : (pj lw).1 11 6 = some (.ireturn, 1, 0)) rfl
theorem w11_7 {x : Int32} {l0 : Slot} : W (pj lw) 11 7 (l0 :: .val (.int x) :: L) S k n H Q ↔ W (pj lw) 11 8 (l0 :: .val (.int x) :: L) (.int x :: S) k n H Q := W_s (rfl : (pj lw).1 11 7 = some (.iload_n 1, 1, 0)) rfl rfl rfl
theorem w11_8 {x : Int32} {l0 l1 l2 : Slot} : W (pj lw) 11 8 (l0 :: l1 :: l2 :: .val (.int x) :: L) S k n H Q ↔ W (pj lw) 11 9 (l0 :: l1 :: l2 :: .val (.int x) :: L) (.int x :: S) k n H Q := W_s (rfl : (pj lw).1 11 8 = some (.iload_n 3, 1, 0)) rfl rfl rfl
theorem w11_9 {x y : Int32} : W (pj lw) 11 9 L (.int y :: .int x :: S) k n H Q ↔ (if y < x then W (pj lw) 11 12 L S k n H Q else W (pj lw) 11 14 L S k n H Q) := W_icmp_le (rfl : (pj lw).1 11 9 = some (.if_icmp .le 5, 3, 0)) rfl
theorem w11_12 {x : Int32} {l0 l1 l2 : Slot} : W (pj lw) 11 12 (l0 :: l1 :: l2 :: .val (.int x) :: L) S k n H Q ↔ W (pj lw) 11 13 (l0 :: l1 :: l2 :: .val (.int x) :: L) (.int x :: S) k n H Q := W_s (rfl : (pj lw).1 11 12 = some (.iload_n 3, 1, 0)) rfl rfl rfl
theorem w11_13 {x : Int32} : W (pj lw) 11 13 L (.int x :: S) k n H Q ↔ Q (some (.int x)) H := W_r (rfl : (pj lw).1 11 13 = some (.ireturn, 1, 0)) rfl
theorem w11_14 {x : Int32} {l0 : Slot} : W (pj lw) 11 14 (l0 :: .val (.int x) :: L) S k n H Q ↔ W (pj lw) 11 15 (l0 :: .val (.int x) :: L) (.int x :: S) k n H Q := W_s (rfl : (pj lw).1 11 14 = some (.iload_n 1, 1, 0)) rfl rfl rfl
theorem w11_15 {x : Int32} : W (pj lw) 11 15 L (.int x :: S) k n H Q ↔ Q (some (.int x)) H := W_r (rfl : (pj lw).1 11 15 = some (.ireturn, 1, 0)) rfl
theorem c12 {x0 : Nat} {x1 : Int32} : Cl (pj lw) 12 [.ref x0, .int x1] H Q ↔ W (pj lw) 12 0 [.val (.ref x0), .val (.int x1), .unset] [] 0 0 H Q := cl_unf rfl
theorem w12_0 {x : Int32} {l0 : Slot} : W (pj lw) 12 0 (l0 :: .val (.int x) :: L) S k n H Q ↔ W (pj lw) 12 1 (l0 :: .val (.int x) :: L) (.int x :: S) k n H Q := W_s (rfl : (pj lw).1 12 0 = some (.iload_n 1, 1, 0)) rfl rfl rfl
theorem w12_1 {x : Nat} : W (pj lw) 12 1 (.val (.ref x) :: L) S k n H Q ↔ W (pj lw) 12 2 (.val (.ref x) :: L) (.ref x :: S) k n H Q := W_s (rfl : (pj lw).1 12 1 = some (.aload_n 0, 1, 0)) rfl rfl rfl
theorem w12_2 {a : Nat} : W (pj lw) 12 2 L (.ref a :: S) k n H Q ↔ (isO H a = true ∧ W (pj lw) 12 5 L (fld H a 0 :: S) k n H Q) := W_getf (rfl : (pj lw).1 12 2 = some (.getfield 64, 3, 0))
theorem w12_5 {x y : Int32} : W (pj lw) 12 5 L (.int y :: .int x :: S) k n H Q ↔ (¬ y = 0 ∧ W (pj lw) 12 6 L (.int (x % y) :: S) k n H Q) := W_irem (rfl : (pj lw).1 12 5 = some (.irem, 1, 0))
theorem w12_6 {x : Int32} {l0 l1 : Slot} : W (pj lw) 12 6 (l0 :: l1 :: .unset :: L) (.int x :: S) k n H Q ↔ W (pj lw) 12 7 (l0 :: l1 :: .val (.int x) :: L) S k n H Q := W_istn (rfl : (pj lw).1 12 6 = some (.istore_n 2, 1, 0)) rfl rfl
theorem w12_7 {x : Int32} {l0 l1 : Slot} : W (pj lw) 12 7 (l0 :: l1 :: .val (.int x) :: L) S k n H Q ↔ W (pj lw) 12 8 (l0 :: l1 :: .val (.int x) :: L) (.int x :: S) k n H Q := W_s (rfl : (pj lw).1 12 7 = some (.iload_n 2, 1, 0)) rfl rfl rfl
theorem w12_8 {x : Int32} : W (pj lw) 12 8 L (.int x :: S) k n H Q ↔ (if x < 0 then W (pj lw) 12 11 L S k n H Q else W (pj lw) 12 18 L S k n H Q) := W_if_ge (rfl : (pj lw).1 12 8 = some (.ifCond .ge 10, 3, 0)) rfl
theorem w12_11 {x : Int32} {l0 l1 : Slot} : W (pj lw) 12 11 (l0 :: l1 :: .val (.int x) :: L) S k n H Q ↔ W (pj lw) 12 12 (l0 :: l1 :: .val (.int x) :: L) (.int x :: S) k n H Q := W_s (rfl : (pj lw).1 12 11 = some (.iload_n 2, 1, 0)) rfl rfl rfl
theorem w12_12 {x : Nat} : W (pj lw) 12 12 (.val (.ref x) :: L) S k n H Q ↔ W (pj lw) 12 13 (.val (.ref x) :: L) (.ref x :: S) k n H Q := W_s (rfl : (pj lw).1 12 12 = some (.aload_n 0, 1, 0)) rfl rfl rfl
theorem w12_13 {a : Nat} : W (pj lw) 12 13 L (.ref a :: S) k n H Q ↔ (isO H a = true ∧ W (pj lw) 12 16 L (fld H a 0 :: S) k n H Q) := W_getf (rfl : (pj lw).1 12 13 = some (.getfield 64, 3, 0))
theorem w12_16 {x y : Int32} : W (pj lw) 12 16 L (.int y :: .int x :: S) k n H Q ↔ W (pj lw) 12 17 L (.int (x + y) :: S) k n H Q := W_s (rfl : (pj lw).1 12 16 = some (.iadd, 1, 0)) rfl rfl rfl
theorem w12_17i {y : Int32} {x : Int32} {l0 l1 : Slot} : W (pj lw) 12 17 (l0 :: l1 :: .val (.int y) :: L) (.int x :: S) k n H Q ↔ W (pj lw) 12 18 (l0 :: l1 :: .val (.int x) :: L) S k n H Q := W_istn (rfl : (pj lw).1 12 17 = some (.istore_n 2, 1, 0)) rfl rfl
theorem w12_18 {x : Int32} {l0 l1 : Slot} : W (pj lw) 12 18 (l0 :: l1 :: .val (.int x) :: L) S k n H Q ↔ W (pj lw) 12 19 (l0 :: l1 :: .val (.int x) :: L) (.int x :: S) k n H Q := W_s (rfl : (pj lw).1 12 18 = some (.iload_n 2, 1, 0)) rfl rfl rfl
theorem w12_19 {x : Int32} : W (pj lw) 12 19 L (.int x :: S) k n H Q ↔ Q (some (.int x)) H := W_r (rfl : (pj lw).1 12 19 = some (.ireturn, 1, 0)) rfl
theorem c13 {x0 : Nat} : Cl (pj lw) 13 [.ref x0] H Q ↔ W (pj lw) 13 0 [.val (.ref x0)] [] 0 0 H Q := cl_unf rfl
theorem w13_0 {x : Nat} : W (pj lw) 13 0 (.val (.ref x) :: L) S k n H Q ↔ W (pj lw) 13 1 (.val (.ref x) :: L) (.ref x :: S) k n H Q := W_s (rfl : (pj lw).1 13 0 = some (.aload_n 0, 1, 0)) rfl rfl rfl
theorem w13_1 {x : Nat} : W (pj lw) 13 1 (.val (.ref x) :: L) S k n H Q ↔ W (pj lw) 13 2 (.val (.ref x) :: L) (.ref x :: S) k n H Q := W_s (rfl : (pj lw).1 13 1 = some (.aload_n 0, 1, 0)) rfl rfl rfl
theorem w13_2 {a : Nat} : W (pj lw) 13 2 L (.ref a :: S) k n H Q ↔ (isO H a = true ∧ W (pj lw) 13 5 L (fld H a 3 :: S) k n H Q) := W_getf (rfl : (pj lw).1 13 2 = some (.getfield 75, 3, 3))
theorem w13_5 : W (pj lw) 13 5 L S k n H Q ↔ W (pj lw) 13 7 L (.int 1103515245 :: S) k n H Q := W_s (rfl : (pj lw).1 13 5 = some (.ldc 150, 2, 1103515245)) rfl rfl rfl
theorem w13_7 {x y : Int32} : W (pj lw) 13 7 L (.int y :: .int x :: S) k n H Q ↔ W (pj lw) 13 8 L (.int (x * y) :: S) k n H Q := W_s (rfl : (pj lw).1 13 7 = some (.imul, 1, 0)) rfl rfl rfl
theorem w13_8 : W (pj lw) 13 8 L S k n H Q ↔ W (pj lw) 13 11 L (.int 12345 :: S) k n H Q := W_s (rfl : (pj lw).1 13 8 = some (.sipush 12345, 3, 0)) rfl rfl rfl
theorem w13_11 {x y : Int32} : W (pj lw) 13 11 L (.int y :: .int x :: S) k n H Q ↔ W (pj lw) 13 12 L (.int (x + y) :: S) k n H Q := W_s (rfl : (pj lw).1 13 11 = some (.iadd, 1, 0)) rfl rfl rfl
theorem w13_12 {a : Nat} {v : Value} : W (pj lw) 13 12 L (v :: .ref a :: S) k n H Q ↔ ((isOw H a = true ∧ okv (.int) v = true) ∧ W (pj lw) 13 15 L S k n (wr H a 3 v) Q) := W_putf (rfl : (pj lw).1 13 12 = some (.putfield 75, 3, 3))
theorem w13_15 {x : Nat} : W (pj lw) 13 15 (.val (.ref x) :: L) S k n H Q ↔ W (pj lw) 13 16 (.val (.ref x) :: L) (.ref x :: S) k n H Q := W_s (rfl : (pj lw).1 13 15 = some (.aload_n 0, 1, 0)) rfl rfl rfl
theorem w13_16 {a : Nat} : W (pj lw) 13 16 L (.ref a :: S) k n H Q ↔ (isO H a = true ∧ W (pj lw) 13 19 L (fld H a 3 :: S) k n H Q) := W_getf (rfl : (pj lw).1 13 16 = some (.getfield 75, 3, 3))
theorem w13_19 : W (pj lw) 13 19 L S k n H Q ↔ W (pj lw) 13 21 L (.int 16 :: S) k n H Q := W_s (rfl : (pj lw).1 13 19 = some (.bipush 16, 2, 0)) rfl rfl rfl
theorem w13_21 {x y : Int32} : W (pj lw) 13 21 L (.int y :: .int x :: S) k n H Q ↔ W (pj lw) 13 22 L (.int (Jvm.Free.XT.ushr x y) :: S) k n H Q := W_s (rfl : (pj lw).1 13 21 = some (.iushr, 1, 0)) rfl rfl rfl
theorem w13_22 : W (pj lw) 13 22 L S k n H Q ↔ W (pj lw) 13 25 L (.int 32767 :: S) k n H Q := W_s (rfl : (pj lw).1 13 22 = some (.sipush 32767, 3, 0)) rfl rfl rfl
theorem w13_25 {x y : Int32} : W (pj lw) 13 25 L (.int y :: .int x :: S) k n H Q ↔ W (pj lw) 13 26 L (.int (x &&& y) :: S) k n H Q := W_s (rfl : (pj lw).1 13 25 = some (.iand, 1, 0)) rfl rfl rfl
theorem w13_26 {x : Int32} : W (pj lw) 13 26 L (.int x :: S) k n H Q ↔ Q (some (.int x)) H := W_r (rfl : (pj lw).1 13 26 = some (.ireturn, 1, 0)) rfl
theorem c14 {x0 : Nat} {x1 : Int32} {x2 : Int32} : Cl (pj lw) 14 [.ref x0, .int x1, .int x2] H Q ↔ W (pj lw) 14 0 [.val (.ref x0), .val (.int x1), .val (.int x2)] [] 0 0 H Q := cl_unf rfl
theorem w14_0 {x : Nat} : W (pj lw) 14 0 (.val (.ref x) :: L) S k n H Q ↔ W (pj lw) 14 1 (.val (.ref x) :: L) (.ref x :: S) k n H Q := W_s (rfl : (pj lw).1 14 0 = some (.aload_n 0, 1, 0)) rfl rfl rfl
theorem w14_1 {a : Nat} : W (pj lw) 14 1 L (.ref a :: S) k n H Q ↔ (isO H a = true ∧ W (pj lw) 14 4 L (fld H a 23 :: S) k n H Q) := W_getf (rfl : (pj lw).1 14 1 = some (.getfield 13, 3, 23))
theorem w14_4 {x : Int32} {l0 : Slot} : W (pj lw) 14 4 (l0 :: .val (.int x) :: L) S k n H Q ↔ W (pj lw) 14 5 (l0 :: .val (.int x) :: L) (.int x :: S) k n H Q := W_s (rfl : (pj lw).1 14 4 = some (.iload_n 1, 1, 0)) rfl rfl rfl
theorem w14_5 : W (pj lw) 14 5 L S k n H Q ↔ W (pj lw) 14 8 L (.int 128 :: S) k n H Q := W_s (rfl : (pj lw).1 14 5 = some (.sipush 128, 3, 0)) rfl rfl rfl
theorem w14_8 {x y : Int32} : W (pj lw) 14 8 L (.int y :: .int x :: S) k n H Q ↔ W (pj lw) 14 9 L (.int (x * y) :: S) k n H Q := W_s (rfl : (pj lw).1 14 8 = some (.imul, 1, 0)) rfl rfl rfl
theorem w14_9 {x : Int32} {l0 l1 : Slot} : W (pj lw) 14 9 (l0 :: l1 :: .val (.int x) :: L) S k n H Q ↔ W (pj lw) 14 10 (l0 :: l1 :: .val (.int x) :: L) (.int x :: S) k n H Q := W_s (rfl : (pj lw).1 14 9 = some (.iload_n 2, 1, 0)) rfl rfl rfl
theorem w14_10 {x y : Int32} : W (pj lw) 14 10 L (.int y :: .int x :: S) k n H Q ↔ W (pj lw) 14 11 L (.int (x + y) :: S) k n H Q := W_s (rfl : (pj lw).1 14 10 = some (.iadd, 1, 0)) rfl rfl rfl
theorem w14_11 {i : Int32} {a : Nat} : W (pj lw) 14 11 L (.int i :: .ref a :: S) k n H Q ↔ ((inA H a .byte i = true ∨ inA H a .boolean i = true) ∧ W (pj lw) 14 12 L (elt H a i :: S) k n H Q) := W_baload (rfl : (pj lw).1 14 11 = some (.baload, 1, 0))
theorem w14_12 {x : Int32} : W (pj lw) 14 12 L (.int x :: S) k n H Q ↔ (if x = 0 then W (pj lw) 14 17 L S k n H Q else W (pj lw) 14 15 L S k n H Q) := W_if_eq (rfl : (pj lw).1 14 12 = some (.ifCond .eq 5, 3, 0)) rfl
theorem w14_15 : W (pj lw) 14 15 L S k n H Q ↔ W (pj lw) 14 16 L (.int 1 :: S) k n H Q := W_s (rfl : (pj lw).1 14 15 = some (.iconst 1, 1, 0)) rfl rfl rfl
theorem w14_16 {x : Int32} : W (pj lw) 14 16 L (.int x :: S) k n H Q ↔ ((x = 0 ∨ x = 1) ∧ Q (some (.int x)) H) := W_rz (rfl : (pj lw).1 14 16 = some (.ireturn, 1, 0)) rfl
theorem w14_17 {x : Nat} : W (pj lw) 14 17 (.val (.ref x) :: L) S k n H Q ↔ W (pj lw) 14 18 (.val (.ref x) :: L) (.ref x :: S) k n H Q := W_s (rfl : (pj lw).1 14 17 = some (.aload_n 0, 1, 0)) rfl rfl rfl
theorem w14_18 {a : Nat} : W (pj lw) 14 18 L (.ref a :: S) k n H Q ↔ (isO H a = true ∧ W (pj lw) 14 21 L (fld H a 10 :: S) k n H Q) := W_getf (rfl : (pj lw).1 14 18 = some (.getfield 128, 3, 10))
theorem w14_21 {x : Int32} : W (pj lw) 14 21 L (.int x :: S) k n H Q ↔ (if x = 0 then W (pj lw) 14 36 L S k n H Q else W (pj lw) 14 24 L S k n H Q) := W_if_eq (rfl : (pj lw).1 14 21 = some (.ifCond .eq 15, 3, 0)) rfl
theorem w14_24 {x : Int32} {l0 l1 : Slot} : W (pj lw) 14 24 (l0 :: l1 :: .val (.int x) :: L) S k n H Q ↔ W (pj lw) 14 25 (l0 :: l1 :: .val (.int x) :: L) (.int x :: S) k n H Q := W_s (rfl : (pj lw).1 14 24 = some (.iload_n 2, 1, 0)) rfl rfl rfl
theorem w14_25 {x : Nat} : W (pj lw) 14 25 (.val (.ref x) :: L) S k n H Q ↔ W (pj lw) 14 26 (.val (.ref x) :: L) (.ref x :: S) k n H Q := W_s (rfl : (pj lw).1 14 25 = some (.aload_n 0, 1, 0)) rfl rfl rfl
theorem w14_26 {a : Nat} : W (pj lw) 14 26 L (.ref a :: S) k n H Q ↔ (isO H a = true ∧ W (pj lw) 14 29 L (fld H a 4 :: S) k n H Q) := W_getf (rfl : (pj lw).1 14 26 = some (.getfield 78, 3, 4))
theorem w14_29 {x y : Int32} : W (pj lw) 14 29 L (.int y :: .int x :: S) k n H Q ↔ (if x = y then W (pj lw) 14 32 L S k n H Q else W (pj lw) 14 36 L S k n H Q) := W_icmp_ne (rfl : (pj lw).1 14 29 = some (.if_icmp .ne 7, 3, 0)) rfl
theorem w14_32 : W (pj lw) 14 32 L S k n H Q ↔ W (pj lw) 14 33 L (.int 1 :: S) k n H Q := W_s (rfl : (pj lw).1 14 32 = some (.iconst 1, 1, 0)) rfl rfl rfl
theorem w14_33 : W (pj lw) 14 33 L S k n H Q ↔ W (pj lw) 14 37 L S k n H Q := W_goto (rfl : (pj lw).1 14 33 = some (.goto 4, 3, 0)) rfl
theorem w14_36 : W (pj lw) 14 36 L S k n H Q ↔ W (pj lw) 14 37 L (.int 0 :: S) k n H Q := W_s (rfl : (pj lw).1 14 36 = some (.iconst 0, 1, 0)) rfl rfl rfl
theorem w14_37 {x : Int32} : W (pj lw) 14 37 L (.int x :: S) k n H Q ↔ ((x = 0 ∨ x = 1) ∧ Q (some (.int x)) H) := W_rz (rfl : (pj lw).1 14 37 = some (.ireturn, 1, 0)) rfl
theorem c15 {x0 : Nat} {x1 : Int32} {x2 : Int32} : Cl (pj lw) 15 [.ref x0, .int x1, .int x2] H Q ↔ W (pj lw) 15 0 [.val (.ref x0), .val (.int x1), .val (.int x2), .unset, .unset, .unset] [] 0 0 H Q := cl_unf rfl
theorem w15_0 : W (pj lw) 15 0 L S k n H Q ↔ W (pj lw) 15 1 L (.int 0 :: S) k n H Q := W_s (rfl : (pj lw).1 15 0 = some (.iconst 0, 1, 0)) rfl rfl rfl
theorem w15_1 {x : Int32} {l0 l1 l2 : Slot} : W (pj lw) 15 1 (l0 :: l1 :: l2 :: .unset :: L) (.int x :: S) k n H Q ↔ W (pj lw) 15 2 (l0 :: l1 :: l2 :: .val (.int x) :: L) S k n H Q := W_istn (rfl : (pj lw).1 15 1 = some (.istore_n 3, 1, 0)) rfl rfl
theorem w15_2 : W (pj lw) 15 2 L S k n H Q ↔ W (pj lw) 15 3 L (.int 1 :: S) k n H Q := W_s (rfl : (pj lw).1 15 2 = some (.iconst 1, 1, 0)) rfl rfl rfl
theorem w15_3 {x : Int32} {l0 l1 l2 l3 : Slot} : W (pj lw) 15 3 (l0 :: l1 :: l2 :: l3 :: .unset :: L) (.int x :: S) k n H Q ↔ W (pj lw) 15 5 (l0 :: l1 :: l2 :: l3 :: .val (.int x) :: L) S k n H Q := W_ist (rfl : (pj lw).1 15 3 = some (.istore 4, 2, 0)) rfl rfl
theorem w15_5 {x : Int32} {l0 l1 l2 l3 : Slot} : W (pj lw) 15 5 (l0 :: l1 :: l2 :: l3 :: .val (.int x) :: L) S k n H Q ↔ W (pj lw) 15 7 (l0 :: l1 :: l2 :: l3 :: .val (.int x) :: L) (.int x :: S) k n H Q := W_s (rfl : (pj lw).1 15 5 = some (.iload 4, 2, 0)) rfl rfl rfl
theorem w15_7 {x : Nat} : W (pj lw) 15 7 (.val (.ref x) :: L) S k n H Q ↔ W (pj lw) 15 8 (.val (.ref x) :: L) (.ref x :: S) k n H Q := W_s (rfl : (pj lw).1 15 7 = some (.aload_n 0, 1, 0)) rfl rfl rfl
theorem w15_8 {a : Nat} : W (pj lw) 15 8 L (.ref a :: S) k n H Q ↔ (isO H a = true ∧ W (pj lw) 15 11 L (fld H a 2 :: S) k n H Q) := W_getf (rfl : (pj lw).1 15 8 = some (.getfield 71, 3, 2))
theorem w15_11 {x y : Int32} : W (pj lw) 15 11 L (.int y :: .int x :: S) k n H Q ↔ (if y < x then W (pj lw) 15 46 L S k n H Q else W (pj lw) 15 14 L S k n H Q) := W_icmp_gt (rfl : (pj lw).1 15 11 = some (.if_icmp .gt 35, 3, 0)) rfl
theorem w15_14 {x : Nat} : W (pj lw) 15 14 (.val (.ref x) :: L) S k n H Q ↔ W (pj lw) 15 15 (.val (.ref x) :: L) (.ref x :: S) k n H Q := W_s (rfl : (pj lw).1 15 14 = some (.aload_n 0, 1, 0)) rfl rfl rfl
theorem w15_15 {x : Int32} {l0 l1 : Slot} : W (pj lw) 15 15 (l0 :: l1 :: .val (.int x) :: L) S k n H Q ↔ W (pj lw) 15 16 (l0 :: l1 :: .val (.int x) :: L) (.int x :: S) k n H Q := W_s (rfl : (pj lw).1 15 15 = some (.iload_n 2, 1, 0)) rfl rfl rfl
theorem w15_16 {x : Int32} {l0 l1 l2 l3 : Slot} : W (pj lw) 15 16 (l0 :: l1 :: l2 :: l3 :: .val (.int x) :: L) S k n H Q ↔ W (pj lw) 15 18 (l0 :: l1 :: l2 :: l3 :: .val (.int x) :: L) (.int x :: S) k n H Q := W_s (rfl : (pj lw).1 15 16 = some (.iload 4, 2, 0)) rfl rfl rfl
theorem w15_18 {x y : Int32} : W (pj lw) 15 18 L (.int y :: .int x :: S) k n H Q ↔ W (pj lw) 15 19 L (.int (x + y) :: S) k n H Q := W_s (rfl : (pj lw).1 15 18 = some (.iadd, 1, 0)) rfl rfl rfl
theorem w15_19 {a : Nat} {x0 : Int32} : W (pj lw) 15 19 L (.int x0 :: .ref a :: S) k n H Q ↔ ((isO H a = true ∧ cs S + (3 + 11) + 0 ≤ 14) ∧ Cl (pj lw) 12 [.ref a, .int x0] H (fun v H => W (pj lw) 15 22 L (v.toList ++ S) k n H Q)) := W_inst (as := [.int x0]) (rfl : (pj lw).1 15 19 = some (.invokevirtual 151, 3, 12)) rfl rfl rfl (Nat.le_of_ble_eq_true rfl) (Nat.le_of_ble_eq_true rfl) ⟨rfl, rfl⟩
theorem w15_22i {y : Int32} {x : Int32} {l0 l1 l2 l3 l4 : Slot} : W (pj lw) 15 22 (l0 :: l1 :: l2 :: l3 :: l4 :: .val (.int y) :: L) (.int x :: S) k n H Q ↔ W (pj lw) 15 24 (l0 :: l1 :: l2 :: l3 :: l4 :: .val (.int x) :: L) S k n H Q := W_ist (rfl : (pj lw).1 15 22 = some (.istore 5, 2, 0)) rfl rfl
theorem w15_22 {x : Int32} {l0 l1 l2 l3 l4 : Slot} : W (pj lw) 15 22 (l0 :: l1 :: l2 :: l3 :: l4 :: .unset :: L) (.int x :: S) k n H Q ↔ W (pj lw) 15 24 (l0 :: l1 :: l2 :: l3 :: l4 :: .val (.int x) :: L) S k n H Q := W_ist (rfl : (pj lw).1 15 22 = some (.istore 5, 2, 0)) rfl rfl
theorem w15_24 {x : Nat} : W (pj lw) 15 24 (.val (.ref x) :: L) S k n H Q ↔ W (pj lw) 15 25 (.val (.ref x) :: L) (.ref x :: S) k n H Q := W_s (rfl : (pj lw).1 15 24 = some (.aload_n 0, 1, 0)) rfl rfl rfl
theorem w15_25 {x : Int32} {l0 : Slot} : W (pj lw) 15 25 (l0 :: .val (.int x) :: L) S k n H Q ↔ W (pj lw) 15 26 (l0 :: .val (.int x) :: L) (.int x :: S) k n H Q := W_s (rfl : (pj lw).1 15 25 = some (.iload_n 1, 1, 0)) rfl rfl rfl
theorem w15_26 {x : Int32} {l0 l1 l2 l3 l4 : Slot} : W (pj lw) 15 26 (l0 :: l1 :: l2 :: l3 :: l4 :: .val (.int x) :: L) S k n H Q ↔ W (pj lw) 15 28 (l0 :: l1 :: l2 :: l3 :: l4 :: .val (.int x) :: L) (.int x :: S) k n H Q := W_s (rfl : (pj lw).1 15 26 = some (.iload 5, 2, 0)) rfl rfl rfl
theorem w15_28 {a : Nat} {x0 : Int32} {x1 : Int32} : W (pj lw) 15 28 L (.int x1 :: .int x0 :: .ref a :: S) k n H Q ↔ ((isO H a = true ∧ cs S + (3 + 11) + 0 ≤ 14) ∧ Cl (pj lw) 14 [.ref a, .int x0, .int x1] H (fun v H => W (pj lw) 15 31 L (v.toList ++ S) k n H Q)) := W_inst (as := [.int x0, .int x1]) (rfl : (pj lw).1 15 28 = some (.invokevirtual 155, 3, 14)) rfl rfl rfl (Nat.le_of_ble_eq_true rfl) (Nat.le_of_ble_eq_true rfl) ⟨rfl, rfl⟩
theorem w15_31 {x : Int32} : W (pj lw) 15 31 L (.int x :: S) k n H Q ↔ (if x = 0 then W (pj lw) 15 37 L S k n H Q else W (pj lw) 15 34 L S k n H Q) := W_if_eq (rfl : (pj lw).1 15 31 = some (.ifCond .eq 6, 3, 0)) rfl
theorem w15_34 : W (pj lw) 15 34 L S k n H Q ↔ W (pj lw) 15 46 L S k n H Q := W_goto (rfl : (pj lw).1 15 34 = some (.goto 12, 3, 0)) rfl
theorem w15_37 {x : Int32} {l0 l1 l2 l3 : Slot} : W (pj lw) 15 37 (l0 :: l1 :: l2 :: l3 :: .val (.int x) :: L) S k n H Q ↔ W (pj lw) 15 39 (l0 :: l1 :: l2 :: l3 :: .val (.int x) :: L) (.int x :: S) k n H Q := W_s (rfl : (pj lw).1 15 37 = some (.iload 4, 2, 0)) rfl rfl rfl
theorem w15_39i {y : Int32} {x : Int32} {l0 l1 l2 : Slot} : W (pj lw) 15 39 (l0 :: l1 :: l2 :: .val (.int y) :: L) (.int x :: S) k n H Q ↔ W (pj lw) 15 40 (l0 :: l1 :: l2 :: .val (.int x) :: L) S k n H Q := W_istn (rfl : (pj lw).1 15 39 = some (.istore_n 3, 1, 0)) rfl rfl
theorem w15_40 {x : Int32} {l0 l1 l2 l3 : Slot} : W (pj lw) 15 40 (l0 :: l1 :: l2 :: l3 :: .val (.int x) :: L) S k n H Q ↔ W (pj lw) 15 43 (l0 :: l1 :: l2 :: l3 :: .val (.int (x + 1)) :: L) S k n H Q := W_s (rfl : (pj lw).1 15 40 = some (.iinc 4 1, 3, 0)) rfl rfl rfl
theorem w15_43 : W (pj lw) 15 43 L S k n H Q ↔ W (pj lw) 15 5 L S k n H Q := W_goto (rfl : (pj lw).1 15 43 = some (.goto (-38), 3, 0)) rfl
theorem w15_46 {x : Int32} {l0 l1 l2 : Slot} : W (pj lw) 15 46 (l0 :: l1 :: l2 :: .val (.int x) :: L) S k n H Q ↔ W (pj lw) 15 47 (l0 :: l1 :: l2 :: .val (.int x) :: L) (.int x :: S) k n H Q := W_s (rfl : (pj lw).1 15 46 = some (.iload_n 3, 1, 0)) rfl rfl rfl
theorem w15_47 {x : Int32} : W (pj lw) 15 47 L (.int x :: S) k n H Q ↔ Q (some (.int x)) H := W_r (rfl : (pj lw).1 15 47 = some (.ireturn, 1, 0)) rfl
theorem c16 {x0 : Nat} {x1 : Int32} {x2 : Int32} : Cl (pj lw) 16 [.ref x0, .int x1, .int x2] H Q ↔ W (pj lw) 16 0 [.val (.ref x0), .val (.int x1), .val (.int x2), .unset, .unset, .unset] [] 0 0 H Q := cl_unf rfl
theorem w16_0 : W (pj lw) 16 0 L S k n H Q ↔ W (pj lw) 16 1 L (.int 1 :: S) k n H Q := W_s (rfl : (pj lw).1 16 0 = some (.iconst 1, 1, 0)) rfl rfl rfl
theorem w16_1 {x : Int32} {l0 l1 l2 : Slot} : W (pj lw) 16 1 (l0 :: l1 :: l2 :: .unset :: L) (.int x :: S) k n H Q ↔ W (pj lw) 16 2 (l0 :: l1 :: l2 :: .val (.int x) :: L) S k n H Q := W_istn (rfl : (pj lw).1 16 1 = some (.istore_n 3, 1, 0)) rfl rfl
theorem w16_2 {x : Int32} {l0 l1 l2 : Slot} : W (pj lw) 16 2 (l0 :: l1 :: l2 :: .val (.int x) :: L) S k n H Q ↔ W (pj lw) 16 3 (l0 :: l1 :: l2 :: .val (.int x) :: L) (.int x :: S) k n H Q := W_s (rfl : (pj lw).1 16 2 = some (.iload_n 3, 1, 0)) rfl rfl rfl
theorem w16_3 {x : Nat} : W (pj lw) 16 3 (.val (.ref x) :: L) S k n H Q ↔ W (pj lw) 16 4 (.val (.ref x) :: L) (.ref x :: S) k n H Q := W_s (rfl : (pj lw).1 16 3 = some (.aload_n 0, 1, 0)) rfl rfl rfl
theorem w16_4 {a : Nat} : W (pj lw) 16 4 L (.ref a :: S) k n H Q ↔ (isO H a = true ∧ W (pj lw) 16 7 L (fld H a 2 :: S) k n H Q) := W_getf (rfl : (pj lw).1 16 4 = some (.getfield 71, 3, 2))
theorem w16_7 {x y : Int32} : W (pj lw) 16 7 L (.int y :: .int x :: S) k n H Q ↔ (if y < x then W (pj lw) 16 62 L S k n H Q else W (pj lw) 16 10 L S k n H Q) := W_icmp_gt (rfl : (pj lw).1 16 7 = some (.if_icmp .gt 55, 3, 0)) rfl
theorem w16_10 {x : Nat} : W (pj lw) 16 10 (.val (.ref x) :: L) S k n H Q ↔ W (pj lw) 16 11 (.val (.ref x) :: L) (.ref x :: S) k n H Q := W_s (rfl : (pj lw).1 16 10 = some (.aload_n 0, 1, 0)) rfl rfl rfl
theorem w16_11 {x : Int32} {l0 l1 : Slot} : W (pj lw) 16 11 (l0 :: l1 :: .val (.int x) :: L) S k n H Q ↔ W (pj lw) 16 12 (l0 :: l1 :: .val (.int x) :: L) (.int x :: S) k n H Q := W_s (rfl : (pj lw).1 16 11 = some (.iload_n 2, 1, 0)) rfl rfl rfl
theorem w16_12 {x : Int32} {l0 l1 l2 : Slot} : W (pj lw) 16 12 (l0 :: l1 :: l2 :: .val (.int x) :: L) S k n H Q ↔ W (pj lw) 16 13 (l0 :: l1 :: l2 :: .val (.int x) :: L) (.int x :: S) k n H Q := W_s (rfl : (pj lw).1 16 12 = some (.iload_n 3, 1, 0)) rfl rfl rfl
theorem w16_13 {x y : Int32} : W (pj lw) 16 13 L (.int y :: .int x :: S) k n H Q ↔ W (pj lw) 16 14 L (.int (x - y) :: S) k n H Q := W_s (rfl : (pj lw).1 16 13 = some (.isub, 1, 0)) rfl rfl rfl
theorem w16_14 {a : Nat} {x0 : Int32} : W (pj lw) 16 14 L (.int x0 :: .ref a :: S) k n H Q ↔ ((isO H a = true ∧ cs S + (3 + 11) + 0 ≤ 14) ∧ Cl (pj lw) 12 [.ref a, .int x0] H (fun v H => W (pj lw) 16 17 L (v.toList ++ S) k n H Q)) := W_inst (as := [.int x0]) (rfl : (pj lw).1 16 14 = some (.invokevirtual 151, 3, 12)) rfl rfl rfl (Nat.le_of_ble_eq_true rfl) (Nat.le_of_ble_eq_true rfl) ⟨rfl, rfl⟩
theorem w16_17i {y : Int32} {x : Int32} {l0 l1 l2 l3 : Slot} : W (pj lw) 16 17 (l0 :: l1 :: l2 :: l3 :: .val (.int y) :: L) (.int x :: S) k n H Q ↔ W (pj lw) 16 19 (l0 :: l1 :: l2 :: l3 :: .val (.int x) :: L) S k n H Q := W_ist (rfl : (pj lw).1 16 17 = some (.istore 4, 2, 0)) rfl rfl
theorem w16_17 {x : Int32} {l0 l1 l2 l3 : Slot} : W (pj lw) 16 17 (l0 :: l1 :: l2 :: l3 :: .unset :: L) (.int x :: S) k n H Q ↔ W (pj lw) 16 19 (l0 :: l1 :: l2 :: l3 :: .val (.int x) :: L) S k n H Q := W_ist (rfl : (pj lw).1 16 17 = some (.istore 4, 2, 0)) rfl rfl
theorem w16_19 {x : Int32} {l0 : Slot} : W (pj lw) 16 19 (l0 :: .val (.int x) :: L) S k n H Q ↔ W (pj lw) 16 20 (l0 :: .val (.int x) :: L) (.int x :: S) k n H Q := W_s (rfl : (pj lw).1 16 19 = some (.iload_n 1, 1, 0)) rfl rfl rfl
theorem w16_20 : W (pj lw) 16 20 L S k n H Q ↔ W (pj lw) 16 23 L (.int 128 :: S) k n H Q := W_s (rfl : (pj lw).1 16 20 = some (.sipush 128, 3, 0)) rfl rfl rfl
theorem w16_23 {x y : Int32} : W (pj lw) 16 23 L (.int y :: .int x :: S) k n H Q ↔ W (pj lw) 16 24 L (.int (x * y) :: S) k n H Q := W_s (rfl : (pj lw).1 16 23 = some (.imul, 1, 0)) rfl rfl rfl
theorem w16_24 {x : Int32} {l0 l1 l2 l3 : Slot} : W (pj lw) 16 24 (l0 :: l1 :: l2 :: l3 :: .val (.int x) :: L) S k n H Q ↔ W (pj lw) 16 26 (l0 :: l1 :: l2 :: l3 :: .val (.int x) :: L) (.int x :: S) k n H Q := W_s (rfl : (pj lw).1 16 24 = some (.iload 4, 2, 0)) rfl rfl rfl
theorem w16_26 {x y : Int32} : W (pj lw) 16 26 L (.int y :: .int x :: S) k n H Q ↔ W (pj lw) 16 27 L (.int (x + y) :: S) k n H Q := W_s (rfl : (pj lw).1 16 26 = some (.iadd, 1, 0)) rfl rfl rfl
theorem w16_27i {y : Int32} {x : Int32} {l0 l1 l2 l3 l4 : Slot} : W (pj lw) 16 27 (l0 :: l1 :: l2 :: l3 :: l4 :: .val (.int y) :: L) (.int x :: S) k n H Q ↔ W (pj lw) 16 29 (l0 :: l1 :: l2 :: l3 :: l4 :: .val (.int x) :: L) S k n H Q := W_ist (rfl : (pj lw).1 16 27 = some (.istore 5, 2, 0)) rfl rfl
theorem w16_27 {x : Int32} {l0 l1 l2 l3 l4 : Slot} : W (pj lw) 16 27 (l0 :: l1 :: l2 :: l3 :: l4 :: .unset :: L) (.int x :: S) k n H Q ↔ W (pj lw) 16 29 (l0 :: l1 :: l2 :: l3 :: l4 :: .val (.int x) :: L) S k n H Q := W_ist (rfl : (pj lw).1 16 27 = some (.istore 5, 2, 0)) rfl rfl
theorem w16_29 {x : Nat} : W (pj lw) 16 29 (.val (.ref x) :: L) S k n H Q ↔ W (pj lw) 16 30 (.val (.ref x) :: L) (.ref x :: S) k n H Q := W_s (rfl : (pj lw).1 16 29 = some (.aload_n 0, 1, 0)) rfl rfl rfl
theorem w16_30 {a : Nat} : W (pj lw) 16 30 L (.ref a :: S) k n H Q ↔ (isO H a = true ∧ W (pj lw) 16 33 L (fld H a 23 :: S) k n H Q) := W_getf (rfl : (pj lw).1 16 30 = some (.getfield 13, 3, 23))
theorem w16_33 {x : Int32} {l0 l1 l2 l3 l4 : Slot} : W (pj lw) 16 33 (l0 :: l1 :: l2 :: l3 :: l4 :: .val (.int x) :: L) S k n H Q ↔ W (pj lw) 16 35 (l0 :: l1 :: l2 :: l3 :: l4 :: .val (.int x) :: L) (.int x :: S) k n H Q := W_s (rfl : (pj lw).1 16 33 = some (.iload 5, 2, 0)) rfl rfl rfl
theorem w16_35 {i : Int32} {a : Nat} : W (pj lw) 16 35 L (.int i :: .ref a :: S) k n H Q ↔ ((inA H a .byte i = true ∨ inA H a .boolean i = true) ∧ W (pj lw) 16 36 L (elt H a i :: S) k n H Q) := W_baload (rfl : (pj lw).1 16 35 = some (.baload, 1, 0))
theorem w16_36 {x : Int32} : W (pj lw) 16 36 L (.int x :: S) k n H Q ↔ (if x = 0 then W (pj lw) 16 56 L S k n H Q else W (pj lw) 16 39 L S k n H Q) := W_if_eq (rfl : (pj lw).1 16 36 = some (.ifCond .eq 20, 3, 0)) rfl
theorem w16_39 {x : Nat} : W (pj lw) 16 39 (.val (.ref x) :: L) S k n H Q ↔ W (pj lw) 16 40 (.val (.ref x) :: L) (.ref x :: S) k n H Q := W_s (rfl : (pj lw).1 16 39 = some (.aload_n 0, 1, 0)) rfl rfl rfl
theorem w16_40 {a : Nat} : W (pj lw) 16 40 L (.ref a :: S) k n H Q ↔ (isO H a = true ∧ W (pj lw) 16 43 L (fld H a 24 :: S) k n H Q) := W_getf (rfl : (pj lw).1 16 40 = some (.getfield 16, 3, 24))
theorem w16_43 {x : Int32} {l0 l1 l2 l3 l4 : Slot} : W (pj lw) 16 43 (l0 :: l1 :: l2 :: l3 :: l4 :: .val (.int x) :: L) S k n H Q ↔ W (pj lw) 16 45 (l0 :: l1 :: l2 :: l3 :: l4 :: .val (.int x) :: L) (.int x :: S) k n H Q := W_s (rfl : (pj lw).1 16 43 = some (.iload 5, 2, 0)) rfl rfl rfl
theorem w16_45 {i : Int32} {a : Nat} : W (pj lw) 16 45 L (.int i :: .ref a :: S) k n H Q ↔ (inA H a .int i = true ∧ W (pj lw) 16 46 L (elt H a i :: S) k n H Q) := W_iaload (rfl : (pj lw).1 16 45 = some (.iaload, 1, 0))
theorem w16_46 {x : Int32} {l0 l1 l2 : Slot} : W (pj lw) 16 46 (l0 :: l1 :: l2 :: .val (.int x) :: L) S k n H Q ↔ W (pj lw) 16 47 (l0 :: l1 :: l2 :: .val (.int x) :: L) (.int x :: S) k n H Q := W_s (rfl : (pj lw).1 16 46 = some (.iload_n 3, 1, 0)) rfl rfl rfl
theorem w16_47 {x y : Int32} : W (pj lw) 16 47 L (.int y :: .int x :: S) k n H Q ↔ (if x < y then W (pj lw) 16 50 L S k n H Q else W (pj lw) 16 54 L S k n H Q) := W_icmp_ge (rfl : (pj lw).1 16 47 = some (.if_icmp .ge 7, 3, 0)) rfl
theorem w16_50 : W (pj lw) 16 50 L S k n H Q ↔ W (pj lw) 16 51 L (.int 1 :: S) k n H Q := W_s (rfl : (pj lw).1 16 50 = some (.iconst 1, 1, 0)) rfl rfl rfl
theorem w16_51 : W (pj lw) 16 51 L S k n H Q ↔ W (pj lw) 16 55 L S k n H Q := W_goto (rfl : (pj lw).1 16 51 = some (.goto 4, 3, 0)) rfl
theorem w16_54 : W (pj lw) 16 54 L S k n H Q ↔ W (pj lw) 16 55 L (.int 0 :: S) k n H Q := W_s (rfl : (pj lw).1 16 54 = some (.iconst 0, 1, 0)) rfl rfl rfl
theorem w16_55 {x : Int32} : W (pj lw) 16 55 L (.int x :: S) k n H Q ↔ ((x = 0 ∨ x = 1) ∧ Q (some (.int x)) H) := W_rz (rfl : (pj lw).1 16 55 = some (.ireturn, 1, 0)) rfl
theorem w16_56 {x : Int32} {l0 l1 l2 : Slot} : W (pj lw) 16 56 (l0 :: l1 :: l2 :: .val (.int x) :: L) S k n H Q ↔ W (pj lw) 16 59 (l0 :: l1 :: l2 :: .val (.int (x + 1)) :: L) S k n H Q := W_s (rfl : (pj lw).1 16 56 = some (.iinc 3 1, 3, 0)) rfl rfl rfl
theorem w16_59 : W (pj lw) 16 59 L S k n H Q ↔ W (pj lw) 16 2 L S k n H Q := W_goto (rfl : (pj lw).1 16 59 = some (.goto (-57), 3, 0)) rfl
theorem w16_62 : W (pj lw) 16 62 L S k n H Q ↔ W (pj lw) 16 63 L (.int 1 :: S) k n H Q := W_s (rfl : (pj lw).1 16 62 = some (.iconst 1, 1, 0)) rfl rfl rfl
theorem w16_63 {x : Int32} : W (pj lw) 16 63 L (.int x :: S) k n H Q ↔ ((x = 0 ∨ x = 1) ∧ Q (some (.int x)) H) := W_rz (rfl : (pj lw).1 16 63 = some (.ireturn, 1, 0)) rfl
theorem c17 {x0 : Nat} : Cl (pj lw) 17 [.ref x0] H Q ↔ W (pj lw) 17 0 [.val (.ref x0), .unset, .unset] [] 0 0 H Q := cl_unf rfl
theorem w17_0 : W (pj lw) 17 0 L S k n H Q ↔ W (pj lw) 17 1 L (.int 0 :: S) k n H Q := W_s (rfl : (pj lw).1 17 0 = some (.iconst 0, 1, 0)) rfl rfl rfl
theorem w17_1 {x : Int32} {l0 : Slot} : W (pj lw) 17 1 (l0 :: .unset :: L) (.int x :: S) k n H Q ↔ W (pj lw) 17 2 (l0 :: .val (.int x) :: L) S k n H Q := W_istn (rfl : (pj lw).1 17 1 = some (.istore_n 1, 1, 0)) rfl rfl
theorem w17_2 {x : Int32} {l0 : Slot} : W (pj lw) 17 2 (l0 :: .val (.int x) :: L) S k n H Q ↔ W (pj lw) 17 3 (l0 :: .val (.int x) :: L) (.int x :: S) k n H Q := W_s (rfl : (pj lw).1 17 2 = some (.iload_n 1, 1, 0)) rfl rfl rfl
theorem w17_3 : W (pj lw) 17 3 L S k n H Q ↔ W (pj lw) 17 6 L (.int 384 :: S) k n H Q := W_s (rfl : (pj lw).1 17 3 = some (.sipush 384, 3, 0)) rfl rfl rfl
theorem w17_6 {x y : Int32} : W (pj lw) 17 6 L (.int y :: .int x :: S) k n H Q ↔ (if x < y then W (pj lw) 17 9 L S k n H Q else W (pj lw) 17 22 L S k n H Q) := W_icmp_ge (rfl : (pj lw).1 17 6 = some (.if_icmp .ge 16, 3, 0)) rfl
theorem w17_9 {x : Nat} : W (pj lw) 17 9 (.val (.ref x) :: L) S k n H Q ↔ W (pj lw) 17 10 (.val (.ref x) :: L) (.ref x :: S) k n H Q := W_s (rfl : (pj lw).1 17 9 = some (.aload_n 0, 1, 0)) rfl rfl rfl
theorem w17_10 {a : Nat} : W (pj lw) 17 10 L (.ref a :: S) k n H Q ↔ (isO H a = true ∧ W (pj lw) 17 13 L (fld H a 31 :: S) k n H Q) := W_getf (rfl : (pj lw).1 17 10 = some (.getfield 38, 3, 31))
theorem w17_13 {x : Int32} {l0 : Slot} : W (pj lw) 17 13 (l0 :: .val (.int x) :: L) S k n H Q ↔ W (pj lw) 17 14 (l0 :: .val (.int x) :: L) (.int x :: S) k n H Q := W_s (rfl : (pj lw).1 17 13 = some (.iload_n 1, 1, 0)) rfl rfl rfl
theorem w17_14 : W (pj lw) 17 14 L S k n H Q ↔ W (pj lw) 17 15 L (.int (-1) :: S) k n H Q := W_s (rfl : (pj lw).1 17 14 = some (.iconst (-1), 1, 0)) rfl rfl rfl
theorem w17_15 {x i : Int32} {a : Nat} : W (pj lw) 17 15 L (.int x :: .int i :: .ref a :: S) k n H Q ↔ (inAw H a .int i = true ∧ W (pj lw) 17 16 L S k n (wr H a i.toNatClampNeg (.int x)) Q) := W_iastore (rfl : (pj lw).1 17 15 = some (.iastore, 1, 0))
theorem w17_16 {x : Int32} {l0 : Slot} : W (pj lw) 17 16 (l0 :: .val (.int x) :: L) S k n H Q ↔ W (pj lw) 17 19 (l0 :: .val (.int (x + 1)) :: L) S k n H Q := W_s (rfl : (pj lw).1 17 16 = some (.iinc 1 1, 3, 0)) rfl rfl rfl
theorem w17_19 : W (pj lw) 17 19 L S k n H Q ↔ W (pj lw) 17 2 L S k n H Q := W_goto (rfl : (pj lw).1 17 19 = some (.goto (-17), 3, 0)) rfl
theorem w17_22 : W (pj lw) 17 22 L S k n H Q ↔ W (pj lw) 17 23 L (.int 0 :: S) k n H Q := W_s (rfl : (pj lw).1 17 22 = some (.iconst 0, 1, 0)) rfl rfl rfl
theorem w17_23i {y : Int32} {x : Int32} {l0 : Slot} : W (pj lw) 17 23 (l0 :: .val (.int y) :: L) (.int x :: S) k n H Q ↔ W (pj lw) 17 24 (l0 :: .val (.int x) :: L) S k n H Q := W_istn (rfl : (pj lw).1 17 23 = some (.istore_n 1, 1, 0)) rfl rfl
theorem w17_24 {x : Int32} {l0 : Slot} : W (pj lw) 17 24 (l0 :: .val (.int x) :: L) S k n H Q ↔ W (pj lw) 17 25 (l0 :: .val (.int x) :: L) (.int x :: S) k n H Q := W_s (rfl : (pj lw).1 17 24 = some (.iload_n 1, 1, 0)) rfl rfl rfl
theorem w17_25 {x : Nat} : W (pj lw) 17 25 (.val (.ref x) :: L) S k n H Q ↔ W (pj lw) 17 26 (.val (.ref x) :: L) (.ref x :: S) k n H Q := W_s (rfl : (pj lw).1 17 25 = some (.aload_n 0, 1, 0)) rfl rfl rfl
theorem w17_26 {a : Nat} : W (pj lw) 17 26 L (.ref a :: S) k n H Q ↔ (isO H a = true ∧ W (pj lw) 17 29 L (fld H a 1 :: S) k n H Q) := W_getf (rfl : (pj lw).1 17 26 = some (.getfield 68, 3, 1))
theorem w17_29 {x y : Int32} : W (pj lw) 17 29 L (.int y :: .int x :: S) k n H Q ↔ (if x < y then W (pj lw) 17 32 L S k n H Q else W (pj lw) 17 75 L S k n H Q) := W_icmp_ge (rfl : (pj lw).1 17 29 = some (.if_icmp .ge 46, 3, 0)) rfl
theorem w17_32 : W (pj lw) 17 32 L S k n H Q ↔ W (pj lw) 17 33 L (.int 0 :: S) k n H Q := W_s (rfl : (pj lw).1 17 32 = some (.iconst 0, 1, 0)) rfl rfl rfl
theorem w17_33i {y : Int32} {x : Int32} {l0 l1 : Slot} : W (pj lw) 17 33 (l0 :: l1 :: .val (.int y) :: L) (.int x :: S) k n H Q ↔ W (pj lw) 17 34 (l0 :: l1 :: .val (.int x) :: L) S k n H Q := W_istn (rfl : (pj lw).1 17 33 = some (.istore_n 2, 1, 0)) rfl rfl
theorem w17_33 {x : Int32} {l0 l1 : Slot} : W (pj lw) 17 33 (l0 :: l1 :: .unset :: L) (.int x :: S) k n H Q ↔ W (pj lw) 17 34 (l0 :: l1 :: .val (.int x) :: L) S k n H Q := W_istn (rfl : (pj lw).1 17 33 = some (.istore_n 2, 1, 0)) rfl rfl
theorem w17_34 {x : Int32} {l0 l1 : Slot} : W (pj lw) 17 34 (l0 :: l1 :: .val (.int x) :: L) S k n H Q ↔ W (pj lw) 17 35 (l0 :: l1 :: .val (.int x) :: L) (.int x :: S) k n H Q := W_s (rfl : (pj lw).1 17 34 = some (.iload_n 2, 1, 0)) rfl rfl rfl
theorem w17_35 {x : Nat} : W (pj lw) 17 35 (.val (.ref x) :: L) S k n H Q ↔ W (pj lw) 17 36 (.val (.ref x) :: L) (.ref x :: S) k n H Q := W_s (rfl : (pj lw).1 17 35 = some (.aload_n 0, 1, 0)) rfl rfl rfl
theorem w17_36 {a : Nat} : W (pj lw) 17 36 L (.ref a :: S) k n H Q ↔ (isO H a = true ∧ W (pj lw) 17 39 L (fld H a 0 :: S) k n H Q) := W_getf (rfl : (pj lw).1 17 36 = some (.getfield 64, 3, 0))
theorem w17_39 {x y : Int32} : W (pj lw) 17 39 L (.int y :: .int x :: S) k n H Q ↔ (if x < y then W (pj lw) 17 42 L S k n H Q else W (pj lw) 17 69 L S k n H Q) := W_icmp_ge (rfl : (pj lw).1 17 39 = some (.if_icmp .ge 30, 3, 0)) rfl
theorem w17_42 {x : Nat} : W (pj lw) 17 42 (.val (.ref x) :: L) S k n H Q ↔ W (pj lw) 17 43 (.val (.ref x) :: L) (.ref x :: S) k n H Q := W_s (rfl : (pj lw).1 17 42 = some (.aload_n 0, 1, 0)) rfl rfl rfl
theorem w17_43 {a : Nat} : W (pj lw) 17 43 L (.ref a :: S) k n H Q ↔ (isO H a = true ∧ W (pj lw) 17 46 L (fld H a 23 :: S) k n H Q) := W_getf (rfl : (pj lw).1 17 43 = some (.getfield 13, 3, 23))
theorem w17_46 {x : Int32} {l0 : Slot} : W (pj lw) 17 46 (l0 :: .val (.int x) :: L) S k n H Q ↔ W (pj lw) 17 47 (l0 :: .val (.int x) :: L) (.int x :: S) k n H Q := W_s (rfl : (pj lw).1 17 46 = some (.iload_n 1, 1, 0)) rfl rfl rfl
theorem w17_47 : W (pj lw) 17 47 L S k n H Q ↔ W (pj lw) 17 50 L (.int 128 :: S) k n H Q := W_s (rfl : (pj lw).1 17 47 = some (.sipush 128, 3, 0)) rfl rfl rfl
theorem w17_50 {x y : Int32} : W (pj lw) 17 50 L (.int y :: .int x :: S) k n H Q ↔ W (pj lw) 17 51 L (.int (x * y) :: S) k n H Q := W_s (rfl : (pj lw).1 17 50 = some (.imul, 1, 0)) rfl rfl rfl
theorem w17_51 {x : Int32} {l0 l1 : Slot} : W (pj lw) 17 51 (l0 :: l1 :: .val (.int x) :: L) S k n H Q ↔ W (pj lw) 17 52 (l0 :: l1 :: .val (.int x) :: L) (.int x :: S) k n H Q := W_s (rfl : (pj lw).1 17 51 = some (.iload_n 2, 1, 0)) rfl rfl rfl
theorem w17_52 {x y : Int32} : W (pj lw) 17 52 L (.int y :: .int x :: S) k n H Q ↔ W (pj lw) 17 53 L (.int (x + y) :: S) k n H Q := W_s (rfl : (pj lw).1 17 52 = some (.iadd, 1, 0)) rfl rfl rfl
theorem w17_53 {i : Int32} {a : Nat} : W (pj lw) 17 53 L (.int i :: .ref a :: S) k n H Q ↔ ((inA H a .byte i = true ∨ inA H a .boolean i = true) ∧ W (pj lw) 17 54 L (elt H a i :: S) k n H Q) := W_baload (rfl : (pj lw).1 17 53 = some (.baload, 1, 0))
theorem w17_54 {x : Int32} : W (pj lw) 17 54 L (.int x :: S) k n H Q ↔ (if x = 0 then W (pj lw) 17 63 L S k n H Q else W (pj lw) 17 57 L S k n H Q) := W_if_eq (rfl : (pj lw).1 17 54 = some (.ifCond .eq 9, 3, 0)) rfl
theorem w17_57 {x : Nat} : W (pj lw) 17 57 (.val (.ref x) :: L) S k n H Q ↔ W (pj lw) 17 58 (.val (.ref x) :: L) (.ref x :: S) k n H Q := W_s (rfl : (pj lw).1 17 57 = some (.aload_n 0, 1, 0)) rfl rfl rfl
theorem w17_58 {x : Int32} {l0 : Slot} : W (pj lw) 17 58 (l0 :: .val (.int x) :: L) S k n H Q ↔ W (pj lw) 17 59 (l0 :: .val (.int x) :: L) (.int x :: S) k n H Q := W_s (rfl : (pj lw).1 17 58 = some (.iload_n 1, 1, 0)) rfl rfl rfl
theorem w17_59 {x : Int32} {l0 l1 : Slot} : W (pj lw) 17 59 (l0 :: l1 :: .val (.int x) :: L) S k n H Q ↔ W (pj lw) 17 60 (l0 :: l1 :: .val (.int x) :: L) (.int x :: S) k n H Q := W_s (rfl : (pj lw).1 17 59 = some (.iload_n 2, 1, 0)) rfl rfl rfl
theorem w17_60 {a : Nat} {x0 : Int32} {x1 : Int32} : W (pj lw) 17 60 L (.int x1 :: .int x0 :: .ref a :: S) k n H Q ↔ ((isO H a = true ∧ cs S + (9 + 11) + 47 ≤ 67) ∧ Cl (pj lw) 18 [.ref a, .int x0, .int x1] H (fun v H => W (pj lw) 17 63 L (v.toList ++ S) k n H Q)) := W_inst (as := [.int x0, .int x1]) (rfl : (pj lw).1 17 60 = some (.invokevirtual 158, 3, 18)) rfl rfl rfl (Nat.le_of_ble_eq_true rfl) (Nat.le_of_ble_eq_true rfl) ⟨rfl, rfl⟩
theorem w17_63 {x : Int32} {l0 l1 : Slot} : W (pj lw) 17 63 (l0 :: l1 :: .val (.int x) :: L) S k n H Q ↔ W (pj lw) 17 66 (l0 :: l1 :: .val (.int (x + 1)) :: L) S k n H Q := W_s (rfl : (pj lw).1 17 63 = some (.iinc 2 1, 3, 0)) rfl rfl rfl
theorem w17_66 : W (pj lw) 17 66 L S k n H Q ↔ W (pj lw) 17 34 L S k n H Q := W_goto (rfl : (pj lw).1 17 66 = some (.goto (-32), 3, 0)) rfl
theorem w17_69 {x : Int32} {l0 : Slot} : W (pj lw) 17 69 (l0 :: .val (.int x) :: L) S k n H Q ↔ W (pj lw) 17 72 (l0 :: .val (.int (x + 1)) :: L) S k n H Q := W_s (rfl : (pj lw).1 17 69 = some (.iinc 1 1, 3, 0)) rfl rfl rfl
theorem w17_72 : W (pj lw) 17 72 L S k n H Q ↔ W (pj lw) 17 24 L S k n H Q := W_goto (rfl : (pj lw).1 17 72 = some (.goto (-48), 3, 0)) rfl
theorem w17_75 : W (pj lw) 17 75 L S k n H Q ↔ W (pj lw) 17 76 L (.int 0 :: S) k n H Q := W_s (rfl : (pj lw).1 17 75 = some (.iconst 0, 1, 0)) rfl rfl rfl
theorem w17_76i {y : Int32} {x : Int32} {l0 : Slot} : W (pj lw) 17 76 (l0 :: .val (.int y) :: L) (.int x :: S) k n H Q ↔ W (pj lw) 17 77 (l0 :: .val (.int x) :: L) S k n H Q := W_istn (rfl : (pj lw).1 17 76 = some (.istore_n 1, 1, 0)) rfl rfl
theorem w17_77 {x : Int32} {l0 : Slot} : W (pj lw) 17 77 (l0 :: .val (.int x) :: L) S k n H Q ↔ W (pj lw) 17 78 (l0 :: .val (.int x) :: L) (.int x :: S) k n H Q := W_s (rfl : (pj lw).1 17 77 = some (.iload_n 1, 1, 0)) rfl rfl rfl
theorem w17_78 {x : Nat} : W (pj lw) 17 78 (.val (.ref x) :: L) S k n H Q ↔ W (pj lw) 17 79 (.val (.ref x) :: L) (.ref x :: S) k n H Q := W_s (rfl : (pj lw).1 17 78 = some (.aload_n 0, 1, 0)) rfl rfl rfl
theorem w17_79 {a : Nat} : W (pj lw) 17 79 L (.ref a :: S) k n H Q ↔ (isO H a = true ∧ W (pj lw) 17 82 L (fld H a 1 :: S) k n H Q) := W_getf (rfl : (pj lw).1 17 79 = some (.getfield 68, 3, 1))
theorem w17_82 {x y : Int32} : W (pj lw) 17 82 L (.int y :: .int x :: S) k n H Q ↔ (if x < y then W (pj lw) 17 85 L S k n H Q else W (pj lw) 17 113 L S k n H Q) := W_icmp_ge (rfl : (pj lw).1 17 82 = some (.if_icmp .ge 31, 3, 0)) rfl
theorem w17_85 : W (pj lw) 17 85 L S k n H Q ↔ W (pj lw) 17 86 L (.int 0 :: S) k n H Q := W_s (rfl : (pj lw).1 17 85 = some (.iconst 0, 1, 0)) rfl rfl rfl
theorem w17_86i {y : Int32} {x : Int32} {l0 l1 : Slot} : W (pj lw) 17 86 (l0 :: l1 :: .val (.int y) :: L) (.int x :: S) k n H Q ↔ W (pj lw) 17 87 (l0 :: l1 :: .val (.int x) :: L) S k n H Q := W_istn (rfl : (pj lw).1 17 86 = some (.istore_n 2, 1, 0)) rfl rfl
theorem w17_86 {x : Int32} {l0 l1 : Slot} : W (pj lw) 17 86 (l0 :: l1 :: .unset :: L) (.int x :: S) k n H Q ↔ W (pj lw) 17 87 (l0 :: l1 :: .val (.int x) :: L) S k n H Q := W_istn (rfl : (pj lw).1 17 86 = some (.istore_n 2, 1, 0)) rfl rfl
theorem w17_87 {x : Int32} {l0 l1 : Slot} : W (pj lw) 17 87 (l0 :: l1 :: .val (.int x) :: L) S k n H Q ↔ W (pj lw) 17 88 (l0 :: l1 :: .val (.int x) :: L) (.int x :: S) k n H Q := W_s (rfl : (pj lw).1 17 87 = some (.iload_n 2, 1, 0)) rfl rfl rfl
theorem w17_88 {x : Nat} : W (pj lw) 17 88 (.val (.ref x) :: L) S k n H Q ↔ W (pj lw) 17 89 (.val (.ref x) :: L) (.ref x :: S) k n H Q := W_s (rfl : (pj lw).1 17 88 = some (.aload_n 0, 1, 0)) rfl rfl rfl
theorem w17_89 {a : Nat} : W (pj lw) 17 89 L (.ref a :: S) k n H Q ↔ (isO H a = true ∧ W (pj lw) 17 92 L (fld H a 0 :: S) k n H Q) := W_getf (rfl : (pj lw).1 17 89 = some (.getfield 64, 3, 0))
theorem w17_92 {x y : Int32} : W (pj lw) 17 92 L (.int y :: .int x :: S) k n H Q ↔ (if x < y then W (pj lw) 17 95 L S k n H Q else W (pj lw) 17 107 L S k n H Q) := W_icmp_ge (rfl : (pj lw).1 17 92 = some (.if_icmp .ge 15, 3, 0)) rfl
theorem w17_95 {x : Nat} : W (pj lw) 17 95 (.val (.ref x) :: L) S k n H Q ↔ W (pj lw) 17 96 (.val (.ref x) :: L) (.ref x :: S) k n H Q := W_s (rfl : (pj lw).1 17 95 = some (.aload_n 0, 1, 0)) rfl rfl rfl
theorem w17_96 {x : Int32} {l0 : Slot} : W (pj lw) 17 96 (l0 :: .val (.int x) :: L) S k n H Q ↔ W (pj lw) 17 97 (l0 :: .val (.int x) :: L) (.int x :: S) k n H Q := W_s (rfl : (pj lw).1 17 96 = some (.iload_n 1, 1, 0)) rfl rfl rfl
theorem w17_97 {x : Int32} {l0 l1 : Slot} : W (pj lw) 17 97 (l0 :: l1 :: .val (.int x) :: L) S k n H Q ↔ W (pj lw) 17 98 (l0 :: l1 :: .val (.int x) :: L) (.int x :: S) k n H Q := W_s (rfl : (pj lw).1 17 97 = some (.iload_n 2, 1, 0)) rfl rfl rfl
theorem w17_98 {a : Nat} {x0 : Int32} {x1 : Int32} : W (pj lw) 17 98 L (.int x1 :: .int x0 :: .ref a :: S) k n H Q ↔ ((isO H a = true ∧ cs S + (6 + 11) + 0 ≤ 67) ∧ Cl (pj lw) 20 [.ref a, .int x0, .int x1] H (fun v H => W (pj lw) 17 101 L (v.toList ++ S) k n H Q)) := W_inst (as := [.int x0, .int x1]) (rfl : (pj lw).1 17 98 = some (.invokevirtual 162, 3, 20)) rfl rfl rfl (Nat.le_of_ble_eq_true rfl) (Nat.le_of_ble_eq_true rfl) ⟨rfl, rfl⟩
theorem w17_101 {x : Int32} {l0 l1 : Slot} : W (pj lw) 17 101 (l0 :: l1 :: .val (.int x) :: L) S k n H Q ↔ W (pj lw) 17 104 (l0 :: l1 :: .val (.int (x + 1)) :: L) S k n H Q := W_s (rfl : (pj lw).1 17 101 = some (.iinc 2 1, 3, 0)) rfl rfl rfl
theorem w17_104 : W (pj lw) 17 104 L S k n H Q ↔ W (pj lw) 17 87 L S k n H Q := W_goto (rfl : (pj lw).1 17 104 = some (.goto (-17), 3, 0)) rfl
theorem w17_107 {x : Int32} {l0 : Slot} : W (pj lw) 17 107 (l0 :: .val (.int x) :: L) S k n H Q ↔ W (pj lw) 17 110 (l0 :: .val (.int (x + 1)) :: L) S k n H Q := W_s (rfl : (pj lw).1 17 107 = some (.iinc 1 1, 3, 0)) rfl rfl rfl
theorem w17_110 : W (pj lw) 17 110 L S k n H Q ↔ W (pj lw) 17 77 L S k n H Q := W_goto (rfl : (pj lw).1 17 110 = some (.goto (-33), 3, 0)) rfl
theorem w17_113 : W (pj lw) 17 113 L [] k n H Q ↔ Q none H := W_r (rfl : (pj lw).1 17 113 = some (.return_, 1, 0)) rfl
theorem c18 {x0 : Nat} {x1 : Int32} {x2 : Int32} : Cl (pj lw) 18 [.ref x0, .int x1, .int x2] H Q ↔ W (pj lw) 18 0 [.val (.ref x0), .val (.int x1), .val (.int x2), .unset, .unset, .unset, .unset, .unset, .unset] [] 0 0 H Q := cl_unf rfl
theorem w18_0 {x : Int32} {l0 : Slot} : W (pj lw) 18 0 (l0 :: .val (.int x) :: L) S k n H Q ↔ W (pj lw) 18 1 (l0 :: .val (.int x) :: L) (.int x :: S) k n H Q := W_s (rfl : (pj lw).1 18 0 = some (.iload_n 1, 1, 0)) rfl rfl rfl
theorem w18_1 : W (pj lw) 18 1 L S k n H Q ↔ W (pj lw) 18 4 L (.int 128 :: S) k n H Q := W_s (rfl : (pj lw).1 18 1 = some (.sipush 128, 3, 0)) rfl rfl rfl
theorem w18_4 {x y : Int32} : W (pj lw) 18 4 L (.int y :: .int x :: S) k n H Q ↔ W (pj lw) 18 5 L (.int (x * y) :: S) k n H Q := W_s (rfl : (pj lw).1 18 4 = some (.imul, 1, 0)) rfl rfl rfl
theorem w18_5 {x : Int32} {l0 l1 : Slot} : W (pj lw) 18 5 (l0 :: l1 :: .val (.int x) :: L) S k n H Q ↔ W (pj lw) 18 6 (l0 :: l1 :: .val (.int x) :: L) (.int x :: S) k n H Q := W_s (rfl : (pj lw).1 18 5 = some (.iload_n 2, 1, 0)) rfl rfl rfl
theorem w18_6 {x y : Int32} : W (pj lw) 18 6 L (.int y :: .int x :: S) k n H Q ↔ W (pj lw) 18 7 L (.int (x + y) :: S) k n H Q := W_s (rfl : (pj lw).1 18 6 = some (.iadd, 1, 0)) rfl rfl rfl
theorem w18_7 {x : Int32} {l0 l1 l2 : Slot} : W (pj lw) 18 7 (l0 :: l1 :: l2 :: .unset :: L) (.int x :: S) k n H Q ↔ W (pj lw) 18 8 (l0 :: l1 :: l2 :: .val (.int x) :: L) S k n H Q := W_istn (rfl : (pj lw).1 18 7 = some (.istore_n 3, 1, 0)) rfl rfl
theorem w18_8 {x : Nat} : W (pj lw) 18 8 (.val (.ref x) :: L) S k n H Q ↔ W (pj lw) 18 9 (.val (.ref x) :: L) (.ref x :: S) k n H Q := W_s (rfl : (pj lw).1 18 8 = some (.aload_n 0, 1, 0)) rfl rfl rfl
theorem w18_9 {a : Nat} : W (pj lw) 18 9 L (.ref a :: S) k n H Q ↔ (isO H a = true ∧ W (pj lw) 18 12 L (fld H a 26 :: S) k n H Q) := W_getf (rfl : (pj lw).1 18 9 = some (.getfield 23, 3, 26))
theorem w18_12 {x : Int32} {l0 l1 l2 : Slot} : W (pj lw) 18 12 (l0 :: l1 :: l2 :: .val (.int x) :: L) S k n H Q ↔ W (pj lw) 18 13 (l0 :: l1 :: l2 :: .val (.int x) :: L) (.int x :: S) k n H Q := W_s (rfl : (pj lw).1 18 12 = some (.iload_n 3, 1, 0)) rfl rfl rfl
theorem w18_13 {i : Int32} {a : Nat} : W (pj lw) 18 13 L (.int i :: .ref a :: S) k n H Q ↔ ((inA H a .byte i = true ∨ inA H a .boolean i = true) ∧ W (pj lw) 18 14 L (elt H a i :: S) k n H Q) := W_baload (rfl : (pj lw).1 18 13 = some (.baload, 1, 0))
theorem w18_14 {x : Int32} : W (pj lw) 18 14 L (.int x :: S) k n H Q ↔ (if x = 0 then W (pj lw) 18 59 L S k n H Q else W (pj lw) 18 17 L S k n H Q) := W_if_eq (rfl : (pj lw).1 18 14 = some (.ifCond .eq 45, 3, 0)) rfl
theorem w18_17 {x : Int32} {l0 : Slot} : W (pj lw) 18 17 (l0 :: .val (.int x) :: L) S k n H Q ↔ W (pj lw) 18 18 (l0 :: .val (.int x) :: L) (.int x :: S) k n H Q := W_s (rfl : (pj lw).1 18 17 = some (.iload_n 1, 1, 0)) rfl rfl rfl
theorem w18_18 {x : Int32} : W (pj lw) 18 18 L (.int x :: S) k n H Q ↔ (if 0 < x then W (pj lw) 18 21 L S k n H Q else W (pj lw) 18 58 L S k n H Q) := W_if_le (rfl : (pj lw).1 18 18 = some (.ifCond .le 40, 3, 0)) rfl
theorem w18_21 {x : Nat} : W (pj lw) 18 21 (.val (.ref x) :: L) S k n H Q ↔ W (pj lw) 18 22 (.val (.ref x) :: L) (.ref x :: S) k n H Q := W_s (rfl : (pj lw).1 18 21 = some (.aload_n 0, 1, 0)) rfl rfl rfl
theorem w18_22 {a : Nat} : W (pj lw) 18 22 L (.ref a :: S) k n H Q ↔ (isO H a = true ∧ W (pj lw) 18 25 L (fld H a 23 :: S) k n H Q) := W_getf (rfl : (pj lw).1 18 22 = some (.getfield 13, 3, 23))
theorem w18_25 {x : Int32} {l0 : Slot} : W (pj lw) 18 25 (l0 :: .val (.int x) :: L) S k n H Q ↔ W (pj lw) 18 26 (l0 :: .val (.int x) :: L) (.int x :: S) k n H Q := W_s (rfl : (pj lw).1 18 25 = some (.iload_n 1, 1, 0)) rfl rfl rfl
theorem w18_26 : W (pj lw) 18 26 L S k n H Q ↔ W (pj lw) 18 27 L (.int 1 :: S) k n H Q := W_s (rfl : (pj lw).1 18 26 = some (.iconst 1, 1, 0)) rfl rfl rfl
theorem w18_27 {x y : Int32} : W (pj lw) 18 27 L (.int y :: .int x :: S) k n H Q ↔ W (pj lw) 18 28 L (.int (x - y) :: S) k n H Q := W_s (rfl : (pj lw).1 18 27 = some (.isub, 1, 0)) rfl rfl rfl
theorem w18_28 : W (pj lw) 18 28 L S k n H Q ↔ W (pj lw) 18 31 L (.int 128 :: S) k n H Q := W_s (rfl : (pj lw).1 18 28 = some (.sipush 128, 3, 0)) rfl rfl rfl
theorem w18_31 {x y : Int32} : W (pj lw) 18 31 L (.int y :: .int x :: S) k n H Q ↔ W (pj lw) 18 32 L (.int (x * y) :: S) k n H Q := W_s (rfl : (pj lw).1 18 31 = some (.imul, 1, 0)) rfl rfl rfl
theorem w18_32 {x : Int32} {l0 l1 : Slot} : W (pj lw) 18 32 (l0 :: l1 :: .val (.int x) :: L) S k n H Q ↔ W (pj lw) 18 33 (l0 :: l1 :: .val (.int x) :: L) (.int x :: S) k n H Q := W_s (rfl : (pj lw).1 18 32 = some (.iload_n 2, 1, 0)) rfl rfl rfl
theorem w18_33 {x y : Int32} : W (pj lw) 18 33 L (.int y :: .int x :: S) k n H Q ↔ W (pj lw) 18 34 L (.int (x + y) :: S) k n H Q := W_s (rfl : (pj lw).1 18 33 = some (.iadd, 1, 0)) rfl rfl rfl
theorem w18_34 {i : Int32} {a : Nat} : W (pj lw) 18 34 L (.int i :: .ref a :: S) k n H Q ↔ ((inA H a .byte i = true ∨ inA H a .boolean i = true) ∧ W (pj lw) 18 35 L (elt H a i :: S) k n H Q) := W_baload (rfl : (pj lw).1 18 34 = some (.baload, 1, 0))
theorem w18_35 {x : Int32} : W (pj lw) 18 35 L (.int x :: S) k n H Q ↔ (if x = 0 then W (pj lw) 18 38 L S k n H Q else W (pj lw) 18 58 L S k n H Q) := W_if_ne (rfl : (pj lw).1 18 35 = some (.ifCond .ne 23, 3, 0)) rfl
theorem w18_38 {x : Nat} : W (pj lw) 18 38 (.val (.ref x) :: L) S k n H Q ↔ W (pj lw) 18 39 (.val (.ref x) :: L) (.ref x :: S) k n H Q := W_s (rfl : (pj lw).1 18 38 = some (.aload_n 0, 1, 0)) rfl rfl rfl
theorem w18_39 {x : Int32} {l0 : Slot} : W (pj lw) 18 39 (l0 :: .val (.int x) :: L) S k n H Q ↔ W (pj lw) 18 40 (l0 :: .val (.int x) :: L) (.int x :: S) k n H Q := W_s (rfl : (pj lw).1 18 39 = some (.iload_n 1, 1, 0)) rfl rfl rfl
theorem w18_40 : W (pj lw) 18 40 L S k n H Q ↔ W (pj lw) 18 41 L (.int 1 :: S) k n H Q := W_s (rfl : (pj lw).1 18 40 = some (.iconst 1, 1, 0)) rfl rfl rfl
theorem w18_41 {x y : Int32} : W (pj lw) 18 41 L (.int y :: .int x :: S) k n H Q ↔ W (pj lw) 18 42 L (.int (x - y) :: S) k n H Q := W_s (rfl : (pj lw).1 18 41 = some (.isub, 1, 0)) rfl rfl rfl
theorem w18_42 {x : Int32} {l0 l1 : Slot} : W (pj lw) 18 42 (l0 :: l1 :: .val (.int x) :: L) S k n H Q ↔ W (pj lw) 18 43 (l0 :: l1 :: .val (.int x) :: L) (.int x :: S) k n H Q := W_s (rfl : (pj lw).1 18 42 = some (.iload_n 2, 1, 0)) rfl rfl rfl
theorem w18_43 {a : Nat} {x0 : Int32} {x1 : Int32} : W (pj lw) 18 43 L (.int x1 :: .int x0 :: .ref a :: S) k n H Q ↔ ((isO H a = true ∧ cs S + (6 + 11) + 14 ≤ 47) ∧ Cl (pj lw) 16 [.ref a, .int x0, .int x1] H (fun v H => W (pj lw) 18 46 L (v.toList ++ S) k n H Q)) := W_inst (as := [.int x0, .int x1]) (rfl : (pj lw).1 18 43 = some (.invokevirtual 165, 3, 16)) rfl rfl rfl (Nat.le_of_ble_eq_true rfl) (Nat.le_of_ble_eq_true rfl) ⟨rfl, rfl⟩
theorem w18_46 {x : Int32} : W (pj lw) 18 46 L (.int x :: S) k n H Q ↔ (if x = 0 then W (pj lw) 18 58 L S k n H Q else W (pj lw) 18 49 L S k n H Q) := W_if_eq (rfl : (pj lw).1 18 46 = some (.ifCond .eq 12, 3, 0)) rfl
theorem w18_49 {x : Nat} : W (pj lw) 18 49 (.val (.ref x) :: L) S k n H Q ↔ W (pj lw) 18 50 (.val (.ref x) :: L) (.ref x :: S) k n H Q := W_s (rfl : (pj lw).1 18 49 = some (.aload_n 0, 1, 0)) rfl rfl rfl
theorem w18_50 {a : Nat} : W (pj lw) 18 50 L (.ref a :: S) k n H Q ↔ (isO H a = true ∧ W (pj lw) 18 53 L (fld H a 31 :: S) k n H Q) := W_getf (rfl : (pj lw).1 18 50 = some (.getfield 38, 3, 31))
theorem w18_53 {x : Int32} {l0 l1 l2 : Slot} : W (pj lw) 18 53 (l0 :: l1 :: l2 :: .val (.int x) :: L) S k n H Q ↔ W (pj lw) 18 54 (l0 :: l1 :: l2 :: .val (.int x) :: L) (.int x :: S) k n H Q := W_s (rfl : (pj lw).1 18 53 = some (.iload_n 3, 1, 0)) rfl rfl rfl
theorem w18_54 {x : Int32} {l0 : Slot} : W (pj lw) 18 54 (l0 :: .val (.int x) :: L) S k n H Q ↔ W (pj lw) 18 55 (l0 :: .val (.int x) :: L) (.int x :: S) k n H Q := W_s (rfl : (pj lw).1 18 54 = some (.iload_n 1, 1, 0)) rfl rfl rfl
theorem w18_55 : W (pj lw) 18 55 L S k n H Q ↔ W (pj lw) 18 56 L (.int 1 :: S) k n H Q := W_s (rfl : (pj lw).1 18 55 = some (.iconst 1, 1, 0)) rfl rfl rfl
theorem w18_56 {x y : Int32} : W (pj lw) 18 56 L (.int y :: .int x :: S) k n H Q ↔ W (pj lw) 18 57 L (.int (x - y) :: S) k n H Q := W_s (rfl : (pj lw).1 18 56 = some (.isub, 1, 0)) rfl rfl rfl
theorem w18_57 {x i : Int32} {a : Nat} : W (pj lw) 18 57 L (.int x :: .int i :: .ref a :: S) k n H Q ↔ (inAw H a .int i = true ∧ W (pj lw) 18 58 L S k n (wr H a i.toNatClampNeg (.int x)) Q) := W_iastore (rfl : (pj lw).1 18 57 = some (.iastore, 1, 0))
theorem w18_58 : W (pj lw) 18 58 L [] k n H Q ↔ Q none H := W_r (rfl : (pj lw).1 18 58 = some (.return_, 1, 0)) rfl
theorem w18_59 {x : Nat} : W (pj lw) 18 59 (.val (.ref x) :: L) S k n H Q ↔ W (pj lw) 18 60 (.val (.ref x) :: L) (.ref x :: S) k n H Q := W_s (rfl : (pj lw).1 18 59 = some (.aload_n 0, 1, 0)) rfl rfl rfl
theorem w18_60 {x : Int32} {l0 : Slot} : W (pj lw) 18 60 (l0 :: .val (.int x) :: L) S k n H Q ↔ W (pj lw) 18 61 (l0 :: .val (.int x) :: L) (.int x :: S) k n H Q := W_s (rfl : (pj lw).1 18 60 = some (.iload_n 1, 1, 0)) rfl rfl rfl
theorem w18_61 {x : Int32} {l0 l1 : Slot} : W (pj lw) 18 61 (l0 :: l1 :: .val (.int x) :: L) S k n H Q ↔ W (pj lw) 18 62 (l0 :: l1 :: .val (.int x) :: L) (.int x :: S) k n H Q := W_s (rfl : (pj lw).1 18 61 = some (.iload_n 2, 1, 0)) rfl rfl rfl
theorem w18_62 {a : Nat} {x0 : Int32} {x1 : Int32} : W (pj lw) 18 62 L (.int x1 :: .int x0 :: .ref a :: S) k n H Q ↔ ((isO H a = true ∧ cs S + (6 + 11) + 14 ≤ 47) ∧ Cl (pj lw) 15 [.ref a, .int x0, .int x1] H (fun v H => W (pj lw) 18 65 L (v.toList ++ S) k n H Q)) := W_inst (as := [.int x0, .int x1]) (rfl : (pj lw).1 18 62 = some (.invokevirtual 168, 3, 15)) rfl rfl rfl (Nat.le_of_ble_eq_true rfl) (Nat.le_of_ble_eq_true rfl) ⟨rfl, rfl⟩
theorem w18_65 {x : Int32} {l0 l1 l2 l3 : Slot} : W (pj lw) 18 65 (l0 :: l1 :: l2 :: l3 :: .unset :: L) (.int x :: S) k n H Q ↔ W (pj lw) 18 67 (l0 :: l1 :: l2 :: l3 :: .val (.int x) :: L) S k n H Q := W_ist (rfl : (pj lw).1 18 65 = some (.istore 4, 2, 0)) rfl rfl
theorem w18_67 {x : Nat} : W (pj lw) 18 67 (.val (.ref x) :: L) S k n H Q ↔ W (pj lw) 18 68 (.val (.ref x) :: L) (.ref x :: S) k n H Q := W_s (rfl : (pj lw).1 18 67 = some (.aload_n 0, 1, 0)) rfl rfl rfl
theorem w18_68 {a : Nat} : W (pj lw) 18 68 L (.ref a :: S) k n H Q ↔ (isO H a = true ∧ W (pj lw) 18 71 L (fld H a 24 :: S) k n H Q) := W_getf (rfl : (pj lw).1 18 68 = some (.getfield 16, 3, 24))
theorem w18_71 {x : Int32} {l0 l1 l2 : Slot} : W (pj lw) 18 71 (l0 :: l1 :: l2 :: .val (.int x) :: L) S k n H Q ↔ W (pj lw) 18 72 (l0 :: l1 :: l2 :: .val (.int x) :: L) (.int x :: S) k n H Q := W_s (rfl : (pj lw).1 18 71 = some (.iload_n 3, 1, 0)) rfl rfl rfl
theorem w18_72 {i : Int32} {a : Nat} : W (pj lw) 18 72 L (.int i :: .ref a :: S) k n H Q ↔ (inA H a .int i = true ∧ W (pj lw) 18 73 L (elt H a i :: S) k n H Q) := W_iaload (rfl : (pj lw).1 18 72 = some (.iaload, 1, 0))
theorem w18_73 : W (pj lw) 18 73 L S k n H Q ↔ W (pj lw) 18 74 L (.int 1 :: S) k n H Q := W_s (rfl : (pj lw).1 18 73 = some (.iconst 1, 1, 0)) rfl rfl rfl
theorem w18_74 {x y : Int32} : W (pj lw) 18 74 L (.int y :: .int x :: S) k n H Q ↔ W (pj lw) 18 75 L (.int (x + y) :: S) k n H Q := W_s (rfl : (pj lw).1 18 74 = some (.iadd, 1, 0)) rfl rfl rfl
theorem w18_75 {x : Int32} {l0 l1 l2 l3 l4 : Slot} : W (pj lw) 18 75 (l0 :: l1 :: l2 :: l3 :: l4 :: .unset :: L) (.int x :: S) k n H Q ↔ W (pj lw) 18 77 (l0 :: l1 :: l2 :: l3 :: l4 :: .val (.int x) :: L) S k n H Q := W_ist (rfl : (pj lw).1 18 75 = some (.istore 5, 2, 0)) rfl rfl
theorem w18_77 {x : Int32} {l0 l1 l2 l3 l4 : Slot} : W (pj lw) 18 77 (l0 :: l1 :: l2 :: l3 :: l4 :: .val (.int x) :: L) S k n H Q ↔ W (pj lw) 18 79 (l0 :: l1 :: l2 :: l3 :: l4 :: .val (.int x) :: L) (.int x :: S) k n H Q := W_s (rfl : (pj lw).1 18 77 = some (.iload 5, 2, 0)) rfl rfl rfl
theorem w18_79 {x : Nat} : W (pj lw) 18 79 (.val (.ref x) :: L) S k n H Q ↔ W (pj lw) 18 80 (.val (.ref x) :: L) (.ref x :: S) k n H Q := W_s (rfl : (pj lw).1 18 79 = some (.aload_n 0, 1, 0)) rfl rfl rfl
theorem w18_80 {a : Nat} : W (pj lw) 18 80 L (.ref a :: S) k n H Q ↔ (isO H a = true ∧ W (pj lw) 18 83 L (fld H a 2 :: S) k n H Q) := W_getf (rfl : (pj lw).1 18 80 = some (.getfield 71, 3, 2))
theorem w18_83 {x y : Int32} : W (pj lw) 18 83 L (.int y :: .int x :: S) k n H Q ↔ (if y < x then W (pj lw) 18 86 L S k n H Q else W (pj lw) 18 92 L S k n H Q) := W_icmp_le (rfl : (pj lw).1 18 83 = some (.if_icmp .le 9, 3, 0)) rfl
theorem w18_86 {x : Nat} : W (pj lw) 18 86 (.val (.ref x) :: L) S k n H Q ↔ W (pj lw) 18 87 (.val (.ref x) :: L) (.ref x :: S) k n H Q := W_s (rfl : (pj lw).1 18 86 = some (.aload_n 0, 1, 0)) rfl rfl rfl
theorem w18_87 {a : Nat} : W (pj lw) 18 87 L (.ref a :: S) k n H Q ↔ (isO H a = true ∧ W (pj lw) 18 90 L (fld H a 2 :: S) k n H Q) := W_getf (rfl : (pj lw).1 18 87 = some (.getfield 71, 3, 2))
theorem w18_90i {y : Int32} {x : Int32} {l0 l1 l2 l3 l4 : Slot} : W (pj lw) 18 90 (l0 :: l1 :: l2 :: l3 :: l4 :: .val (.int y) :: L) (.int x :: S) k n H Q ↔ W (pj lw) 18 92 (l0 :: l1 :: l2 :: l3 :: l4 :: .val (.int x) :: L) S k n H Q := W_ist (rfl : (pj lw).1 18 90 = some (.istore 5, 2, 0)) rfl rfl
theorem w18_92 {x : Int32} {l0 l1 l2 l3 : Slot} : W (pj lw) 18 92 (l0 :: l1 :: l2 :: l3 :: .val (.int x) :: L) S k n H Q ↔ W (pj lw) 18 94 (l0 :: l1 :: l2 :: l3 :: .val (.int x) :: L) (.int x :: S) k n H Q := W_s (rfl : (pj lw).1 18 92 = some (.iload 4, 2, 0)) rfl rfl rfl
theorem w18_94 {x : Int32} {l0 l1 l2 l3 l4 : Slot} : W (pj lw) 18 94 (l0 :: l1 :: l2 :: l3 :: l4 :: .val (.int x) :: L) S k n H Q ↔ W (pj lw) 18 96 (l0 :: l1 :: l2 :: l3 :: l4 :: .val (.int x) :: L) (.int x :: S) k n H Q := W_s (rfl : (pj lw).1 18 94 = some (.iload 5, 2, 0)) rfl rfl rfl
theorem w18_96 {x y : Int32} : W (pj lw) 18 96 L (.int y :: .int x :: S) k n H Q ↔ (if x < y then W (pj lw) 18 100 L S k n H Q else W (pj lw) 18 99 L S k n H Q) := W_icmp_lt (rfl : (pj lw).1 18 96 = some (.if_icmp .lt 4, 3, 0)) rfl
theorem w18_99 : W (pj lw) 18 99 L [] k n H Q ↔ Q none H := W_r (rfl : (pj lw).1 18 99 = some (.return_, 1, 0)) rfl
theorem w18_100 : W (pj lw) 18 100 L S k n H Q ↔ W (pj lw) 18 101 L (.int (-1) :: S) k n H Q := W_s (rfl : (pj lw).1 18 100 = some (.iconst (-1), 1, 0)) rfl rfl rfl
theorem w18_101 {x : Int32} {l0 l1 l2 l3 l4 l5 : Slot} : W (pj lw) 18 101 (l0 :: l1 :: l2 :: l3 :: l4 :: l5 :: .unset :: L) (.int x :: S) k n H Q ↔ W (pj lw) 18 103 (l0 :: l1 :: l2 :: l3 :: l4 :: l5 :: .val (.int x) :: L) S k n H Q := W_ist (rfl : (pj lw).1 18 101 = some (.istore 6, 2, 0)) rfl rfl
theorem w18_103 : W (pj lw) 18 103 L S k n H Q ↔ W (pj lw) 18 104 L (.int (-1) :: S) k n H Q := W_s (rfl : (pj lw).1 18 103 = some (.iconst (-1), 1, 0)) rfl rfl rfl
theorem w18_104 {x : Int32} {l0 l1 l2 l3 l4 l5 l6 : Slot} : W (pj lw) 18 104 (l0 :: l1 :: l2 :: l3 :: l4 :: l5 :: l6 :: .unset :: L) (.int x :: S) k n H Q ↔ W (pj lw) 18 106 (l0 :: l1 :: l2 :: l3 :: l4 :: l5 :: l6 :: .val (.int x) :: L) S k n H Q := W_ist (rfl : (pj lw).1 18 104 = some (.istore 7, 2, 0)) rfl rfl
theorem w18_106 {x : Int32} {l0 : Slot} : W (pj lw) 18 106 (l0 :: .val (.int x) :: L) S k n H Q ↔ W (pj lw) 18 107 (l0 :: .val (.int x) :: L) (.int x :: S) k n H Q := W_s (rfl : (pj lw).1 18 106 = some (.iload_n 1, 1, 0)) rfl rfl rfl
theorem w18_107 {x : Int32} : W (pj lw) 18 107 L (.int x :: S) k n H Q ↔ (if 0 < x then W (pj lw) 18 110 L S k n H Q else W (pj lw) 18 136 L S k n H Q) := W_if_le (rfl : (pj lw).1 18 107 = some (.ifCond .le 29, 3, 0)) rfl
theorem w18_110 {x : Nat} : W (pj lw) 18 110 (.val (.ref x) :: L) S k n H Q ↔ W (pj lw) 18 111 (.val (.ref x) :: L) (.ref x :: S) k n H Q := W_s (rfl : (pj lw).1 18 110 = some (.aload_n 0, 1, 0)) rfl rfl rfl
theorem w18_111 {x : Int32} {l0 : Slot} : W (pj lw) 18 111 (l0 :: .val (.int x) :: L) S k n H Q ↔ W (pj lw) 18 112 (l0 :: .val (.int x) :: L) (.int x :: S) k n H Q := W_s (rfl : (pj lw).1 18 111 = some (.iload_n 1, 1, 0)) rfl rfl rfl
theorem w18_112 : W (pj lw) 18 112 L S k n H Q ↔ W (pj lw) 18 113 L (.int 1 :: S) k n H Q := W_s (rfl : (pj lw).1 18 112 = some (.iconst 1, 1, 0)) rfl rfl rfl
theorem w18_113 {x y : Int32} : W (pj lw) 18 113 L (.int y :: .int x :: S) k n H Q ↔ W (pj lw) 18 114 L (.int (x - y) :: S) k n H Q := W_s (rfl : (pj lw).1 18 113 = some (.isub, 1, 0)) rfl rfl rfl
theorem w18_114 {x : Int32} {l0 l1 : Slot} : W (pj lw) 18 114 (l0 :: l1 :: .val (.int x) :: L) S k n H Q ↔ W (pj lw) 18 115 (l0 :: l1 :: .val (.int x) :: L) (.int x :: S) k n H Q := W_s (rfl : (pj lw).1 18 114 = some (.iload_n 2, 1, 0)) rfl rfl rfl
theorem w18_115 {x : Int32} {l0 l1 l2 l3 : Slot} : W (pj lw) 18 115 (l0 :: l1 :: l2 :: l3 :: .val (.int x) :: L) S k n H Q ↔ W (pj lw) 18 117 (l0 :: l1 :: l2 :: l3 :: .val (.int x) :: L) (.int x :: S) k n H Q := W_s (rfl : (pj lw).1 18 115 = some (.iload 4, 2, 0)) rfl rfl rfl
theorem w18_117 {a : Nat} {x0 : Int32} {x1 : Int32} {x2 : Int32} : W (pj lw) 18 117 L (.int x2 :: .int x1 :: .int x0 :: .ref a :: S) k n H Q ↔ ((isO H a = true ∧ cs S + (5 + 11) + 31 ≤ 47) ∧ Cl (pj lw) 19 [.ref a, .int x0, .int x1, .int x2] H (fun v H => W (pj lw) 18 120 L (v.toList ++ S) k n H Q)) := W_inst (as := [.int x0, .int x1, .int x2]) (rfl : (pj lw).1 18 117 = some (.invokevirtual 172, 3, 19)) rfl rfl rfl (Nat.le_of_ble_eq_true rfl) (Nat.le_of_ble_eq_true rfl) ⟨rfl, rfl⟩
theorem w18_120 {x : Int32} {l0 l1 l2 l3 l4 l5 l6 l7 : Slot} : W (pj lw) 18 120 (l0 :: l1 :: l2 :: l3 :: l4 :: l5 :: l6 :: l7 :: .unset :: L) (.int x :: S) k n H Q ↔ W (pj lw) 18 122 (l0 :: l1 :: l2 :: l3 :: l4 :: l5 :: l6 :: l7 :: .val (.int x) :: L) S k n H Q := W_ist (rfl : (pj lw).1 18 120 = some (.istore 8, 2, 0)) rfl rfl
theorem w18_122 {x : Int32} {l0 l1 l2 l3 l4 l5 l6 l7 : Slot} : W (pj lw) 18 122 (l0 :: l1 :: l2 :: l3 :: l4 :: l5 :: l6 :: l7 :: .val (.int x) :: L) S k n H Q ↔ W (pj lw) 18 124 (l0 :: l1 :: l2 :: l3 :: l4 :: l5 :: l6 :: l7 :: .val (.int x) :: L) (.int x :: S) k n H Q := W_s (rfl : (pj lw).1 18 122 = some (.iload 8, 2, 0)) rfl rfl rfl
theorem w18_124 {x : Int32} : W (pj lw) 18 124 L (.int x :: S) k n H Q ↔ (if x < 0 then W (pj lw) 18 136 L S k n H Q else W (pj lw) 18 127 L S k n H Q) := W_if_lt (rfl : (pj lw).1 18 124 = some (.ifCond .lt 12, 3, 0)) rfl
theorem w18_127 {x : Int32} {l0 : Slot} : W (pj lw) 18 127 (l0 :: .val (.int x) :: L) S k n H Q ↔ W (pj lw) 18 128 (l0 :: .val (.int x) :: L) (.int x :: S) k n H Q := W_s (rfl : (pj lw).1 18 127 = some (.iload_n 1, 1, 0)) rfl rfl rfl
theorem w18_128 : W (pj lw) 18 128 L S k n H Q ↔ W (pj lw) 18 129 L (.int 1 :: S) k n H Q := W_s (rfl : (pj lw).1 18 128 = some (.iconst 1, 1, 0)) rfl rfl rfl
theorem w18_129 {x y : Int32} : W (pj lw) 18 129 L (.int y :: .int x :: S) k n H Q ↔ W (pj lw) 18 130 L (.int (x - y) :: S) k n H Q := W_s (rfl : (pj lw).1 18 129 = some (.isub, 1, 0)) rfl rfl rfl
theorem w18_130i {y : Int32} {x : Int32} {l0 l1 l2 l3 l4 l5 : Slot} : W (pj lw) 18 130 (l0 :: l1 :: l2 :: l3 :: l4 :: l5 :: .val (.int y) :: L) (.int x :: S) k n H Q ↔ W (pj lw) 18 132 (l0 :: l1 :: l2 :: l3 :: l4 :: l5 :: .val (.int x) :: L) S k n H Q := W_ist (rfl : (pj lw).1 18 130 = some (.istore 6, 2, 0)) rfl rfl
theorem w18_132 {x : Int32} {l0 l1 l2 l3 l4 l5 l6 l7 : Slot} : W (pj lw) 18 132 (l0 :: l1 :: l2 :: l3 :: l4 :: l5 :: l6 :: l7 :: .val (.int x) :: L) S k n H Q ↔ W (pj lw) 18 134 (l0 :: l1 :: l2 :: l3 :: l4 :: l5 :: l6 :: l7 :: .val (.int x) :: L) (.int x :: S) k n H Q := W_s (rfl : (pj lw).1 18 132 = some (.iload 8, 2, 0)) rfl rfl rfl
theorem w18_134i {y : Int32} {x : Int32} {l0 l1 l2 l3 l4 l5 l6 : Slot} : W (pj lw) 18 134 (l0 :: l1 :: l2 :: l3 :: l4 :: l5 :: l6 :: .val (.int y) :: L) (.int x :: S) k n H Q ↔ W (pj lw) 18 136 (l0 :: l1 :: l2 :: l3 :: l4 :: l5 :: l6 :: .val (.int x) :: L) S k n H Q := W_ist (rfl : (pj lw).1 18 134 = some (.istore 7, 2, 0)) rfl rfl
theorem w18_136 {x : Int32} {l0 : Slot} : W (pj lw) 18 136 (l0 :: .val (.int x) :: L) S k n H Q ↔ W (pj lw) 18 137 (l0 :: .val (.int x) :: L) (.int x :: S) k n H Q := W_s (rfl : (pj lw).1 18 136 = some (.iload_n 1, 1, 0)) rfl rfl rfl
theorem w18_137 : W (pj lw) 18 137 L S k n H Q ↔ W (pj lw) 18 138 L (.int 1 :: S) k n H Q := W_s (rfl : (pj lw).1 18 137 = some (.iconst 1, 1, 0)) rfl rfl rfl
theorem w18_138 {x y : Int32} : W (pj lw) 18 138 L (.int y :: .int x :: S) k n H Q ↔ W (pj lw) 18 139 L (.int (x + y) :: S) k n H Q := W_s (rfl : (pj lw).1 18 138 = some (.iadd, 1, 0)) rfl rfl rfl
theorem w18_139 {x : Nat} : W (pj lw) 18 139 (.val (.ref x) :: L) S k n H Q ↔ W (pj lw) 18 140 (.val (.ref x) :: L) (.ref x :: S) k n H Q := W_s (rfl : (pj lw).1 18 139 = some (.aload_n 0, 1, 0)) rfl rfl rfl
theorem w18_140 {a : Nat} : W (pj lw) 18 140 L (.ref a :: S) k n H Q ↔ (isO H a = true ∧ W (pj lw) 18 143 L (fld H a 1 :: S) k n H Q) := W_getf (rfl : (pj lw).1 18 140 = some (.getfield 68, 3, 1))
theorem w18_143 {x y : Int32} : W (pj lw) 18 143 L (.int y :: .int x :: S) k n H Q ↔ (if x < y then W (pj lw) 18 146 L S k n H Q else W (pj lw) 18 175 L S k n H Q) := W_icmp_ge (rfl : (pj lw).1 18 143 = some (.if_icmp .ge 32, 3, 0)) rfl
theorem w18_146 {x : Nat} : W (pj lw) 18 146 (.val (.ref x) :: L) S k n H Q ↔ W (pj lw) 18 147 (.val (.ref x) :: L) (.ref x :: S) k n H Q := W_s (rfl : (pj lw).1 18 146 = some (.aload_n 0, 1, 0)) rfl rfl rfl
theorem w18_147 {x : Int32} {l0 : Slot} : W (pj lw) 18 147 (l0 :: .val (.int x) :: L) S k n H Q ↔ W (pj lw) 18 148 (l0 :: .val (.int x) :: L) (.int x :: S) k n H Q := W_s (rfl : (pj lw).1 18 147 = some (.iload_n 1, 1, 0)) rfl rfl rfl
theorem w18_148 : W (pj lw) 18 148 L S k n H Q ↔ W (pj lw) 18 149 L (.int 1 :: S) k n H Q := W_s (rfl : (pj lw).1 18 148 = some (.iconst 1, 1, 0)) rfl rfl rfl
theorem w18_149 {x y : Int32} : W (pj lw) 18 149 L (.int y :: .int x :: S) k n H Q ↔ W (pj lw) 18 150 L (.int (x + y) :: S) k n H Q := W_s (rfl : (pj lw).1 18 149 = some (.iadd, 1, 0)) rfl rfl rfl
theorem w18_150 {x : Int32} {l0 l1 : Slot} : W (pj lw) 18 150 (l0 :: l1 :: .val (.int x) :: L) S k n H Q ↔ W (pj lw) 18 151 (l0 :: l1 :: .val (.int x) :: L) (.int x :: S) k n H Q := W_s (rfl : (pj lw).1 18 150 = some (.iload_n 2, 1, 0)) rfl rfl rfl
theorem w18_151 {x : Int32} {l0 l1 l2 l3 : Slot} : W (pj lw) 18 151 (l0 :: l1 :: l2 :: l3 :: .val (.int x) :: L) S k n H Q ↔ W (pj lw) 18 153 (l0 :: l1 :: l2 :: l3 :: .val (.int x) :: L) (.int x :: S) k n H Q := W_s (rfl : (pj lw).1 18 151 = some (.iload 4, 2, 0)) rfl rfl rfl
theorem w18_153 {a : Nat} {x0 : Int32} {x1 : Int32} {x2 : Int32} : W (pj lw) 18 153 L (.int x2 :: .int x1 :: .int x0 :: .ref a :: S) k n H Q ↔ ((isO H a = true ∧ cs S + (5 + 11) + 31 ≤ 47) ∧ Cl (pj lw) 19 [.ref a, .int x0, .int x1, .int x2] H (fun v H => W (pj lw) 18 156 L (v.toList ++ S) k n H Q)) := W_inst (as := [.int x0, .int x1, .int x2]) (rfl : (pj lw).1 18 153 = some (.invokevirtual 172, 3, 19)) rfl rfl rfl (Nat.le_of_ble_eq_true rfl) (Nat.le_of_ble_eq_true rfl) ⟨rfl, rfl⟩
theorem w18_156i {y : Int32} {x : Int32} {l0 l1 l2 l3 l4 l5 l6 l7 : Slot} : W (pj lw) 18 156 (l0 :: l1 :: l2 :: l3 :: l4 :: l5 :: l6 :: l7 :: .val (.int y) :: L) (.int x :: S) k n H Q ↔ W (pj lw) 18 158 (l0 :: l1 :: l2 :: l3 :: l4 :: l5 :: l6 :: l7 :: .val (.int x) :: L) S k n H Q := W_ist (rfl : (pj lw).1 18 156 = some (.istore 8, 2, 0)) rfl rfl
theorem w18_156 {x : Int32} {l0 l1 l2 l3 l4 l5 l6 l7 : Slot} : W (pj lw) 18 156 (l0 :: l1 :: l2 :: l3 :: l4 :: l5 :: l6 :: l7 :: .unset :: L) (.int x :: S) k n H Q ↔ W (pj lw) 18 158 (l0 :: l1 :: l2 :: l3 :: l4 :: l5 :: l6 :: l7 :: .val (.int x) :: L) S k n H Q := W_ist (rfl : (pj lw).1 18 156 = some (.istore 8, 2, 0)) rfl rfl
theorem w18_158 {x : Int32} {l0 l1 l2 l3 l4 l5 l6 l7 : Slot} : W (pj lw) 18 158 (l0 :: l1 :: l2 :: l3 :: l4 :: l5 :: l6 :: l7 :: .val (.int x) :: L) S k n H Q ↔ W (pj lw) 18 160 (l0 :: l1 :: l2 :: l3 :: l4 :: l5 :: l6 :: l7 :: .val (.int x) :: L) (.int x :: S) k n H Q := W_s (rfl : (pj lw).1 18 158 = some (.iload 8, 2, 0)) rfl rfl rfl
theorem w18_160 {x : Int32} : W (pj lw) 18 160 L (.int x :: S) k n H Q ↔ (if x < 0 then W (pj lw) 18 175 L S k n H Q else W (pj lw) 18 163 L S k n H Q) := W_if_lt (rfl : (pj lw).1 18 160 = some (.ifCond .lt 15, 3, 0)) rfl
theorem w18_163 {x : Int32} {l0 l1 l2 l3 l4 l5 l6 l7 : Slot} : W (pj lw) 18 163 (l0 :: l1 :: l2 :: l3 :: l4 :: l5 :: l6 :: l7 :: .val (.int x) :: L) S k n H Q ↔ W (pj lw) 18 165 (l0 :: l1 :: l2 :: l3 :: l4 :: l5 :: l6 :: l7 :: .val (.int x) :: L) (.int x :: S) k n H Q := W_s (rfl : (pj lw).1 18 163 = some (.iload 8, 2, 0)) rfl rfl rfl
theorem w18_165 {x : Int32} {l0 l1 l2 l3 l4 l5 l6 : Slot} : W (pj lw) 18 165 (l0 :: l1 :: l2 :: l3 :: l4 :: l5 :: l6 :: .val (.int x) :: L) S k n H Q ↔ W (pj lw) 18 167 (l0 :: l1 :: l2 :: l3 :: l4 :: l5 :: l6 :: .val (.int x) :: L) (.int x :: S) k n H Q := W_s (rfl : (pj lw).1 18 165 = some (.iload 7, 2, 0)) rfl rfl rfl
theorem w18_167 {x y : Int32} : W (pj lw) 18 167 L (.int y :: .int x :: S) k n H Q ↔ (if y < x then W (pj lw) 18 170 L S k n H Q else W (pj lw) 18 175 L S k n H Q) := W_icmp_le (rfl : (pj lw).1 18 167 = some (.if_icmp .le 8, 3, 0)) rfl
theorem w18_170 {x : Int32} {l0 : Slot} : W (pj lw) 18 170 (l0 :: .val (.int x) :: L) S k n H Q ↔ W (pj lw) 18 171 (l0 :: .val (.int x) :: L) (.int x :: S) k n H Q := W_s (rfl : (pj lw).1 18 170 = some (.iload_n 1, 1, 0)) rfl rfl rfl
theorem w18_171 : W (pj lw) 18 171 L S k n H Q ↔ W (pj lw) 18 172 L (.int 1 :: S) k n H Q := W_s (rfl : (pj lw).1 18 171 = some (.iconst 1, 1, 0)) rfl rfl rfl
theorem w18_172 {x y : Int32} : W (pj lw) 18 172 L (.int y :: .int x :: S) k n H Q ↔ W (pj lw) 18 173 L (.int (x + y) :: S) k n H Q := W_s (rfl : (pj lw).1 18 172 = some (.iadd, 1, 0)) rfl rfl rfl
theorem w18_173i {y : Int32} {x : Int32} {l0 l1 l2 l3 l4 l5 : Slot} : W (pj lw) 18 173 (l0 :: l1 :: l2 :: l3 :: l4 :: l5 :: .val (.int y) :: L) (.int x :: S) k n H Q ↔ W (pj lw) 18 175 (l0 :: l1 :: l2 :: l3 :: l4 :: l5 :: .val (.int x) :: L) S k n H Q := W_ist (rfl : (pj lw).1 18 173 = some (.istore 6, 2, 0)) rfl rfl
theorem w18_175 {x : Nat} : W (pj lw) 18 175 (.val (.ref x) :: L) S k n H Q ↔ W (pj lw) 18 176 (.val (.ref x) :: L) (.ref x :: S) k n H Q := W_s (rfl : (pj lw).1 18 175 = some (.aload_n 0, 1, 0)) rfl rfl rfl
theorem w18_176 {a : Nat} : W (pj lw) 18 176 L (.ref a :: S) k n H Q ↔ (isO H a = true ∧ W (pj lw) 18 179 L (fld H a 31 :: S) k n H Q) := W_getf (rfl : (pj lw).1 18 176 = some (.getfield 38, 3, 31))
theorem w18_179 {x : Int32} {l0 l1 l2 : Slot} : W (pj lw) 18 179 (l0 :: l1 :: l2 :: .val (.int x) :: L) S k n H Q ↔ W (pj lw) 18 180 (l0 :: l1 :: l2 :: .val (.int x) :: L) (.int x :: S) k n H Q := W_s (rfl : (pj lw).1 18 179 = some (.iload_n 3, 1, 0)) rfl rfl rfl
theorem w18_180 {x : Int32} {l0 l1 l2 l3 l4 l5 : Slot} : W (pj lw) 18 180 (l0 :: l1 :: l2 :: l3 :: l4 :: l5 :: .val (.int x) :: L) S k n H Q ↔ W (pj lw) 18 182 (l0 :: l1 :: l2 :: l3 :: l4 :: l5 :: .val (.int x) :: L) (.int x :: S) k n H Q := W_s (rfl : (pj lw).1 18 180 = some (.iload 6, 2, 0)) rfl rfl rfl
theorem w18_182 {x i : Int32} {a : Nat} : W (pj lw) 18 182 L (.int x :: .int i :: .ref a :: S) k n H Q ↔ (inAw H a .int i = true ∧ W (pj lw) 18 183 L S k n (wr H a i.toNatClampNeg (.int x)) Q) := W_iastore (rfl : (pj lw).1 18 182 = some (.iastore, 1, 0))
theorem w18_183 : W (pj lw) 18 183 L [] k n H Q ↔ Q none H := W_r (rfl : (pj lw).1 18 183 = some (.return_, 1, 0)) rfl
theorem c19 {x0 : Nat} {x1 : Int32} {x2 : Int32} {x3 : Int32} : Cl (pj lw) 19 [.ref x0, .int x1, .int x2, .int x3] H Q ↔ W (pj lw) 19 0 [.val (.ref x0), .val (.int x1), .val (.int x2), .val (.int x3), .unset] [] 0 0 H Q := cl_unf rfl
theorem w19_0 {x : Nat} : W (pj lw) 19 0 (.val (.ref x) :: L) S k n H Q ↔ W (pj lw) 19 1 (.val (.ref x) :: L) (.ref x :: S) k n H Q := W_s (rfl : (pj lw).1 19 0 = some (.aload_n 0, 1, 0)) rfl rfl rfl
theorem w19_1 {a : Nat} : W (pj lw) 19 1 L (.ref a :: S) k n H Q ↔ (isO H a = true ∧ W (pj lw) 19 4 L (fld H a 23 :: S) k n H Q) := W_getf (rfl : (pj lw).1 19 1 = some (.getfield 13, 3, 23))
theorem w19_4 {x : Int32} {l0 : Slot} : W (pj lw) 19 4 (l0 :: .val (.int x) :: L) S k n H Q ↔ W (pj lw) 19 5 (l0 :: .val (.int x) :: L) (.int x :: S) k n H Q := W_s (rfl : (pj lw).1 19 4 = some (.iload_n 1, 1, 0)) rfl rfl rfl
theorem w19_5 : W (pj lw) 19 5 L S k n H Q ↔ W (pj lw) 19 8 L (.int 128 :: S) k n H Q := W_s (rfl : (pj lw).1 19 5 = some (.sipush 128, 3, 0)) rfl rfl rfl
theorem w19_8 {x y : Int32} : W (pj lw) 19 8 L (.int y :: .int x :: S) k n H Q ↔ W (pj lw) 19 9 L (.int (x * y) :: S) k n H Q := W_s (rfl : (pj lw).1 19 8 = some (.imul, 1, 0)) rfl rfl rfl
theorem w19_9 {x : Int32} {l0 l1 : Slot} : W (pj lw) 19 9 (l0 :: l1 :: .val (.int x) :: L) S k n H Q ↔ W (pj lw) 19 10 (l0 :: l1 :: .val (.int x) :: L) (.int x :: S) k n H Q := W_s (rfl : (pj lw).1 19 9 = some (.iload_n 2, 1, 0)) rfl rfl rfl
theorem w19_10 {x y : Int32} : W (pj lw) 19 10 L (.int y :: .int x :: S) k n H Q ↔ W (pj lw) 19 11 L (.int (x + y) :: S) k n H Q := W_s (rfl : (pj lw).1 19 10 = some (.iadd, 1, 0)) rfl rfl rfl
theorem w19_11 {i : Int32} {a : Nat} : W (pj lw) 19 11 L (.int i :: .ref a :: S) k n H Q ↔ ((inA H a .byte i = true ∨ inA H a .boolean i = true) ∧ W (pj lw) 19 12 L (elt H a i :: S) k n H Q) := W_baload (rfl : (pj lw).1 19 11 = some (.baload, 1, 0))
theorem w19_12 {x : Int32} : W (pj lw) 19 12 L (.int x :: S) k n H Q ↔ (if x = 0 then W (pj lw) 19 17 L S k n H Q else W (pj lw) 19 15 L S k n H Q) := W_if_eq (rfl : (pj lw).1 19 12 = some (.ifCond .eq 5, 3, 0)) rfl
theorem w19_15 : W (pj lw) 19 15 L S k n H Q ↔ W (pj lw) 19 16 L (.int (-1) :: S) k n H Q := W_s (rfl : (pj lw).1 19 15 = some (.iconst (-1), 1, 0)) rfl rfl rfl
theorem w19_16 {x : Int32} : W (pj lw) 19 16 L (.int x :: S) k n H Q ↔ Q (some (.int x)) H := W_r (rfl : (pj lw).1 19 16 = some (.ireturn, 1, 0)) rfl
theorem w19_17 {x : Nat} : W (pj lw) 19 17 (.val (.ref x) :: L) S k n H Q ↔ W (pj lw) 19 18 (.val (.ref x) :: L) (.ref x :: S) k n H Q := W_s (rfl : (pj lw).1 19 17 = some (.aload_n 0, 1, 0)) rfl rfl rfl
theorem w19_18 {x : Int32} {l0 : Slot} : W (pj lw) 19 18 (l0 :: .val (.int x) :: L) S k n H Q ↔ W (pj lw) 19 19 (l0 :: .val (.int x) :: L) (.int x :: S) k n H Q := W_s (rfl : (pj lw).1 19 18 = some (.iload_n 1, 1, 0)) rfl rfl rfl
theorem w19_19 {x : Int32} {l0 l1 : Slot} : W (pj lw) 19 19 (l0 :: l1 :: .val (.int x) :: L) S k n H Q ↔ W (pj lw) 19 20 (l0 :: l1 :: .val (.int x) :: L) (.int x :: S) k n H Q := W_s (rfl : (pj lw).1 19 19 = some (.iload_n 2, 1, 0)) rfl rfl rfl
theorem w19_20 {a : Nat} {x0 : Int32} {x1 : Int32} : W (pj lw) 19 20 L (.int x1 :: .int x0 :: .ref a :: S) k n H Q ↔ ((isO H a = true ∧ cs S + (6 + 11) + 14 ≤ 31) ∧ Cl (pj lw) 15 [.ref a, .int x0, .int x1] H (fun v H => W (pj lw) 19 23 L (v.toList ++ S) k n H Q)) := W_inst (as := [.int x0, .int x1]) (rfl : (pj lw).1 19 20 = some (.invokevirtual 168, 3, 15)) rfl rfl rfl (Nat.le_of_ble_eq_true rfl) (Nat.le_of_ble_eq_true rfl) ⟨rfl, rfl⟩
theorem w19_23 {x : Int32} {l0 l1 l2 l3 : Slot} : W (pj lw) 19 23 (l0 :: l1 :: l2 :: l3 :: .unset :: L) (.int x :: S) k n H Q ↔ W (pj lw) 19 25 (l0 :: l1 :: l2 :: l3 :: .val (.int x) :: L) S k n H Q := W_ist (rfl : (pj lw).1 19 23 = some (.istore 4, 2, 0)) rfl rfl
theorem w19_25 {x : Int32} {l0 l1 l2 l3 : Slot} : W (pj lw) 19 25 (l0 :: l1 :: l2 :: l3 :: .val (.int x) :: L) S k n H Q ↔ W (pj lw) 19 27 (l0 :: l1 :: l2 :: l3 :: .val (.int x) :: L) (.int x :: S) k n H Q := W_s (rfl : (pj lw).1 19 25 = some (.iload 4, 2, 0)) rfl rfl rfl
theorem w19_27 {x : Int32} {l0 l1 l2 : Slot} : W (pj lw) 19 27 (l0 :: l1 :: l2 :: .val (.int x) :: L) S k n H Q ↔ W (pj lw) 19 28 (l0 :: l1 :: l2 :: .val (.int x) :: L) (.int x :: S) k n H Q := W_s (rfl : (pj lw).1 19 27 = some (.iload_n 3, 1, 0)) rfl rfl rfl
theorem w19_28 {x y : Int32} : W (pj lw) 19 28 L (.int y :: .int x :: S) k n H Q ↔ (if y < x then W (pj lw) 19 33 L S k n H Q else W (pj lw) 19 31 L S k n H Q) := W_icmp_gt (rfl : (pj lw).1 19 28 = some (.if_icmp .gt 5, 3, 0)) rfl
theorem w19_31 : W (pj lw) 19 31 L S k n H Q ↔ W (pj lw) 19 32 L (.int (-1) :: S) k n H Q := W_s (rfl : (pj lw).1 19 31 = some (.iconst (-1), 1, 0)) rfl rfl rfl
theorem w19_32 {x : Int32} : W (pj lw) 19 32 L (.int x :: S) k n H Q ↔ Q (some (.int x)) H := W_r (rfl : (pj lw).1 19 32 = some (.ireturn, 1, 0)) rfl
theorem w19_33 {x : Nat} : W (pj lw) 19 33 (.val (.ref x) :: L) S k n H Q ↔ W (pj lw) 19 34 (.val (.ref x) :: L) (.ref x :: S) k n H Q := W_s (rfl : (pj lw).1 19 33 = some (.aload_n 0, 1, 0)) rfl rfl rfl
theorem w19_34 {x : Int32} {l0 : Slot} : W (pj lw) 19 34 (l0 :: .val (.int x) :: L) S k n H Q ↔ W (pj lw) 19 35 (l0 :: .val (.int x) :: L) (.int x :: S) k n H Q := W_s (rfl : (pj lw).1 19 34 = some (.iload_n 1, 1, 0)) rfl rfl rfl
theorem w19_35 {x : Int32} {l0 l1 : Slot} : W (pj lw) 19 35 (l0 :: l1 :: .val (.int x) :: L) S k n H Q ↔ W (pj lw) 19 36 (l0 :: l1 :: .val (.int x) :: L) (.int x :: S) k n H Q := W_s (rfl : (pj lw).1 19 35 = some (.iload_n 2, 1, 0)) rfl rfl rfl
theorem w19_36 {a : Nat} {x0 : Int32} {x1 : Int32} : W (pj lw) 19 36 L (.int x1 :: .int x0 :: .ref a :: S) k n H Q ↔ ((isO H a = true ∧ cs S + (6 + 11) + 14 ≤ 31) ∧ Cl (pj lw) 16 [.ref a, .int x0, .int x1] H (fun v H => W (pj lw) 19 39 L (v.toList ++ S) k n H Q)) := W_inst (as := [.int x0, .int x1]) (rfl : (pj lw).1 19 36 = some (.invokevirtual 165, 3, 16)) rfl rfl rfl (Nat.le_of_ble_eq_true rfl) (Nat.le_of_ble_eq_true rfl) ⟨rfl, rfl⟩
theorem w19_39 {x : Int32} : W (pj lw) 19 39 L (.int x :: S) k n H Q ↔ (if x = 0 then W (pj lw) 19 42 L S k n H Q else W (pj lw) 19 44 L S k n H Q) := W_if_ne (rfl : (pj lw).1 19 39 = some (.ifCond .ne 5, 3, 0)) rfl
theorem w19_42 : W (pj lw) 19 42 L S k n H Q ↔ W (pj lw) 19 43 L (.int (-1) :: S) k n H Q := W_s (rfl : (pj lw).1 19 42 = some (.iconst (-1), 1, 0)) rfl rfl rfl
theorem w19_43 {x : Int32} : W (pj lw) 19 43 L (.int x :: S) k n H Q ↔ Q (some (.int x)) H := W_r (rfl : (pj lw).1 19 43 = some (.ireturn, 1, 0)) rfl
theorem w19_44 {x : Int32} {l0 l1 l2 l3 : Slot} : W (pj lw) 19 44 (l0 :: l1 :: l2 :: l3 :: .val (.int x) :: L) S k n H Q ↔ W (pj lw) 19 46 (l0 :: l1 :: l2 :: l3 :: .val (.int x) :: L) (.int x :: S) k n H Q := W_s (rfl : (pj lw).1 19 44 = some (.iload 4, 2, 0)) rfl rfl rfl
theorem w19_46 {x : Int32} : W (pj lw) 19 46 L (.int x :: S) k n H Q ↔ Q (some (.int x)) H := W_r (rfl : (pj lw).1 19 46 = some (.ireturn, 1, 0)) rfl
theorem c20 {x0 : Nat} {x1 : Int32} {x2 : Int32} : Cl (pj lw) 20 [.ref x0, .int x1, .int x2] H Q ↔ W (pj lw) 20 0 [.val (.ref x0), .val (.int x1), .val (.int x2), .unset, .unset, .unset] [] 0 0 H Q := cl_unf rfl
theorem w20_0 {x : Int32} {l0 : Slot} : W (pj lw) 20 0 (l0 :: .val (.int x) :: L) S k n H Q ↔ W (pj lw) 20 1 (l0 :: .val (.int x) :: L) (.int x :: S) k n H Q := W_s (rfl : (pj lw).1 20 0 = some (.iload_n 1, 1, 0)) rfl rfl rfl
theorem w20_1 : W (pj lw) 20 1 L S k n H Q ↔ W (pj lw) 20 4 L (.int 128 :: S) k n H Q := W_s (rfl : (pj lw).1 20 1 = some (.sipush 128, 3, 0)) rfl rfl rfl
theorem w20_4 {x y : Int32} : W (pj lw) 20 4 L (.int y :: .int x :: S) k n H Q ↔ W (pj lw) 20 5 L (.int (x * y) :: S) k n H Q := W_s (rfl : (pj lw).1 20 4 = some (.imul, 1, 0)) rfl rfl rfl
theorem w20_5 {x : Int32} {l0 l1 : Slot} : W (pj lw) 20 5 (l0 :: l1 :: .val (.int x) :: L) S k n H Q ↔ W (pj lw) 20 6 (l0 :: l1 :: .val (.int x) :: L) (.int x :: S) k n H Q := W_s (rfl : (pj lw).1 20 5 = some (.iload_n 2, 1, 0)) rfl rfl rfl
theorem w20_6 {x y : Int32} : W (pj lw) 20 6 L (.int y :: .int x :: S) k n H Q ↔ W (pj lw) 20 7 L (.int (x + y) :: S) k n H Q := W_s (rfl : (pj lw).1 20 6 = some (.iadd, 1, 0)) rfl rfl rfl
theorem w20_7 {x : Int32} {l0 l1 l2 : Slot} : W (pj lw) 20 7 (l0 :: l1 :: l2 :: .unset :: L) (.int x :: S) k n H Q ↔ W (pj lw) 20 8 (l0 :: l1 :: l2 :: .val (.int x) :: L) S k n H Q := W_istn (rfl : (pj lw).1 20 7 = some (.istore_n 3, 1, 0)) rfl rfl
theorem w20_8 {x : Nat} : W (pj lw) 20 8 (.val (.ref x) :: L) S k n H Q ↔ W (pj lw) 20 9 (.val (.ref x) :: L) (.ref x :: S) k n H Q := W_s (rfl : (pj lw).1 20 8 = some (.aload_n 0, 1, 0)) rfl rfl rfl
theorem w20_9 {a : Nat} : W (pj lw) 20 9 L (.ref a :: S) k n H Q ↔ (isO H a = true ∧ W (pj lw) 20 12 L (fld H a 31 :: S) k n H Q) := W_getf (rfl : (pj lw).1 20 9 = some (.getfield 38, 3, 31))
theorem w20_12 {x : Int32} {l0 l1 l2 : Slot} : W (pj lw) 20 12 (l0 :: l1 :: l2 :: .val (.int x) :: L) S k n H Q ↔ W (pj lw) 20 13 (l0 :: l1 :: l2 :: .val (.int x) :: L) (.int x :: S) k n H Q := W_s (rfl : (pj lw).1 20 12 = some (.iload_n 3, 1, 0)) rfl rfl rfl
theorem w20_13 {i : Int32} {a : Nat} : W (pj lw) 20 13 L (.int i :: .ref a :: S) k n H Q ↔ (inA H a .int i = true ∧ W (pj lw) 20 14 L (elt H a i :: S) k n H Q) := W_iaload (rfl : (pj lw).1 20 13 = some (.iaload, 1, 0))
theorem w20_14 {x : Int32} {l0 l1 l2 l3 : Slot} : W (pj lw) 20 14 (l0 :: l1 :: l2 :: l3 :: .unset :: L) (.int x :: S) k n H Q ↔ W (pj lw) 20 16 (l0 :: l1 :: l2 :: l3 :: .val (.int x) :: L) S k n H Q := W_ist (rfl : (pj lw).1 20 14 = some (.istore 4, 2, 0)) rfl rfl
theorem w20_16 {x : Int32} {l0 l1 l2 l3 : Slot} : W (pj lw) 20 16 (l0 :: l1 :: l2 :: l3 :: .val (.int x) :: L) S k n H Q ↔ W (pj lw) 20 18 (l0 :: l1 :: l2 :: l3 :: .val (.int x) :: L) (.int x :: S) k n H Q := W_s (rfl : (pj lw).1 20 16 = some (.iload 4, 2, 0)) rfl rfl rfl
theorem w20_18 {x : Int32} : W (pj lw) 20 18 L (.int x :: S) k n H Q ↔ (if x < 0 then W (pj lw) 20 30 L S k n H Q else W (pj lw) 20 21 L S k n H Q) := W_if_lt (rfl : (pj lw).1 20 18 = some (.ifCond .lt 12, 3, 0)) rfl
theorem w20_21 {x : Int32} {l0 l1 l2 l3 : Slot} : W (pj lw) 20 21 (l0 :: l1 :: l2 :: l3 :: .val (.int x) :: L) S k n H Q ↔ W (pj lw) 20 23 (l0 :: l1 :: l2 :: l3 :: .val (.int x) :: L) (.int x :: S) k n H Q := W_s (rfl : (pj lw).1 20 21 = some (.iload 4, 2, 0)) rfl rfl rfl
theorem w20_23 {x : Nat} : W (pj lw) 20 23 (.val (.ref x) :: L) S k n H Q ↔ W (pj lw) 20 24 (.val (.ref x) :: L) (.ref x :: S) k n H Q := W_s (rfl : (pj lw).1 20 23 = some (.aload_n 0, 1, 0)) rfl rfl rfl
theorem w20_24 {a : Nat} : W (pj lw) 20 24 L (.ref a :: S) k n H Q ↔ (isO H a = true ∧ W (pj lw) 20 27 L (fld H a 1 :: S) k n H Q) := W_getf (rfl : (pj lw).1 20 24 = some (.getfield 68, 3, 1))
theorem w20_27 {x y : Int32} : W (pj lw) 20 27 L (.int y :: .int x :: S) k n H Q ↔ (if x < y then W (pj lw) 20 31 L S k n H Q else W (pj lw) 20 30 L S k n H Q) := W_icmp_lt (rfl : (pj lw).1 20 27 = some (.if_icmp .lt 4, 3, 0)) rfl
theorem w20_30 : W (pj lw) 20 30 L [] k n H Q ↔ Q none H := W_r (rfl : (pj lw).1 20 30 = some (.return_, 1, 0)) rfl
theorem w20_31 {x : Nat} : W (pj lw) 20 31 (.val (.ref x) :: L) S k n H Q ↔ W (pj lw) 20 32 (.val (.ref x) :: L) (.ref x :: S) k n H Q := W_s (rfl : (pj lw).1 20 31 = some (.aload_n 0, 1, 0)) rfl rfl rfl
theorem w20_32 {a : Nat} : W (pj lw) 20 32 L (.ref a :: S) k n H Q ↔ (isO H a = true ∧ W (pj lw) 20 35 L (fld H a 31 :: S) k n H Q) := W_getf (rfl : (pj lw).1 20 32 = some (.getfield 38, 3, 31))
theorem w20_35 {x : Int32} {l0 l1 l2 : Slot} : W (pj lw) 20 35 (l0 :: l1 :: l2 :: .val (.int x) :: L) S k n H Q ↔ W (pj lw) 20 36 (l0 :: l1 :: l2 :: .val (.int x) :: L) (.int x :: S) k n H Q := W_s (rfl : (pj lw).1 20 35 = some (.iload_n 3, 1, 0)) rfl rfl rfl
theorem w20_36 : W (pj lw) 20 36 L S k n H Q ↔ W (pj lw) 20 37 L (.int (-1) :: S) k n H Q := W_s (rfl : (pj lw).1 20 36 = some (.iconst (-1), 1, 0)) rfl rfl rfl
theorem w20_37 {x i : Int32} {a : Nat} : W (pj lw) 20 37 L (.int x :: .int i :: .ref a :: S) k n H Q ↔ (inAw H a .int i = true ∧ W (pj lw) 20 38 L S k n (wr H a i.toNatClampNeg (.int x)) Q) := W_iastore (rfl : (pj lw).1 20 37 = some (.iastore, 1, 0))
theorem w20_38 {x : Int32} {l0 l1 l2 l3 : Slot} : W (pj lw) 20 38 (l0 :: l1 :: l2 :: l3 :: .val (.int x) :: L) S k n H Q ↔ W (pj lw) 20 40 (l0 :: l1 :: l2 :: l3 :: .val (.int x) :: L) (.int x :: S) k n H Q := W_s (rfl : (pj lw).1 20 38 = some (.iload 4, 2, 0)) rfl rfl rfl
theorem w20_40 : W (pj lw) 20 40 L S k n H Q ↔ W (pj lw) 20 43 L (.int 128 :: S) k n H Q := W_s (rfl : (pj lw).1 20 40 = some (.sipush 128, 3, 0)) rfl rfl rfl
theorem w20_43 {x y : Int32} : W (pj lw) 20 43 L (.int y :: .int x :: S) k n H Q ↔ W (pj lw) 20 44 L (.int (x * y) :: S) k n H Q := W_s (rfl : (pj lw).1 20 43 = some (.imul, 1, 0)) rfl rfl rfl
theorem w20_44 {x : Int32} {l0 l1 : Slot} : W (pj lw) 20 44 (l0 :: l1 :: .val (.int x) :: L) S k n H Q ↔ W (pj lw) 20 45 (l0 :: l1 :: .val (.int x) :: L) (.int x :: S) k n H Q := W_s (rfl : (pj lw).1 20 44 = some (.iload_n 2, 1, 0)) rfl rfl rfl
theorem w20_45 {x y : Int32} : W (pj lw) 20 45 L (.int y :: .int x :: S) k n H Q ↔ W (pj lw) 20 46 L (.int (x + y) :: S) k n H Q := W_s (rfl : (pj lw).1 20 45 = some (.iadd, 1, 0)) rfl rfl rfl
theorem w20_46 {x : Int32} {l0 l1 l2 l3 l4 : Slot} : W (pj lw) 20 46 (l0 :: l1 :: l2 :: l3 :: l4 :: .unset :: L) (.int x :: S) k n H Q ↔ W (pj lw) 20 48 (l0 :: l1 :: l2 :: l3 :: l4 :: .val (.int x) :: L) S k n H Q := W_ist (rfl : (pj lw).1 20 46 = some (.istore 5, 2, 0)) rfl rfl
theorem w20_48 {x : Nat} : W (pj lw) 20 48 (.val (.ref x) :: L) S k n H Q ↔ W (pj lw) 20 49 (.val (.ref x) :: L) (.ref x :: S) k n H Q := W_s (rfl : (pj lw).1 20 48 = some (.aload_n 0, 1, 0)) rfl rfl rfl
theorem w20_49 {a : Nat} : W (pj lw) 20 49 L (.ref a :: S) k n H Q ↔ (isO H a = true ∧ W (pj lw) 20 52 L (fld H a 23 :: S) k n H Q) := W_getf (rfl : (pj lw).1 20 49 = some (.getfield 13, 3, 23))
theorem w20_52 {x : Int32} {l0 l1 l2 l3 l4 : Slot} : W (pj lw) 20 52 (l0 :: l1 :: l2 :: l3 :: l4 :: .val (.int x) :: L) S k n H Q ↔ W (pj lw) 20 54 (l0 :: l1 :: l2 :: l3 :: l4 :: .val (.int x) :: L) (.int x :: S) k n H Q := W_s (rfl : (pj lw).1 20 52 = some (.iload 5, 2, 0)) rfl rfl rfl
theorem w20_54 {i : Int32} {a : Nat} : W (pj lw) 20 54 L (.int i :: .ref a :: S) k n H Q ↔ ((inA H a .byte i = true ∨ inA H a .boolean i = true) ∧ W (pj lw) 20 55 L (elt H a i :: S) k n H Q) := W_baload (rfl : (pj lw).1 20 54 = some (.baload, 1, 0))
theorem w20_55 {x : Int32} : W (pj lw) 20 55 L (.int x :: S) k n H Q ↔ (if x = 0 then W (pj lw) 20 59 L S k n H Q else W (pj lw) 20 58 L S k n H Q) := W_if_eq (rfl : (pj lw).1 20 55 = some (.ifCond .eq 4, 3, 0)) rfl
theorem w20_58 : W (pj lw) 20 58 L [] k n H Q ↔ Q none H := W_r (rfl : (pj lw).1 20 58 = some (.return_, 1, 0)) rfl
theorem w20_59 {x : Nat} : W (pj lw) 20 59 (.val (.ref x) :: L) S k n H Q ↔ W (pj lw) 20 60 (.val (.ref x) :: L) (.ref x :: S) k n H Q := W_s (rfl : (pj lw).1 20 59 = some (.aload_n 0, 1, 0)) rfl rfl rfl
theorem w20_60 {a : Nat} : W (pj lw) 20 60 L (.ref a :: S) k n H Q ↔ (isO H a = true ∧ W (pj lw) 20 63 L (fld H a 23 :: S) k n H Q) := W_getf (rfl : (pj lw).1 20 60 = some (.getfield 13, 3, 23))
theorem w20_63 {x : Int32} {l0 l1 l2 l3 l4 : Slot} : W (pj lw) 20 63 (l0 :: l1 :: l2 :: l3 :: l4 :: .val (.int x) :: L) S k n H Q ↔ W (pj lw) 20 65 (l0 :: l1 :: l2 :: l3 :: l4 :: .val (.int x) :: L) (.int x :: S) k n H Q := W_s (rfl : (pj lw).1 20 63 = some (.iload 5, 2, 0)) rfl rfl rfl
theorem w20_65 : W (pj lw) 20 65 L S k n H Q ↔ W (pj lw) 20 66 L (.int 1 :: S) k n H Q := W_s (rfl : (pj lw).1 20 65 = some (.iconst 1, 1, 0)) rfl rfl rfl
theorem w20_66 {x i : Int32} {a : Nat} : W (pj lw) 20 66 L (.int x :: .int i :: .ref a :: S) k n H Q ↔ (((inAw H a .byte i = true ∧ okv .byte (.int x) = true) ∨ (inAw H a .boolean i = true ∧ okv .boolean (.int x) = true)) ∧ W (pj lw) 20 67 L S k n (wr H a i.toNatClampNeg (.int x)) Q) := W_bastore (rfl : (pj lw).1 20 66 = some (.bastore, 1, 0))
theorem w20_67 {x : Nat} : W (pj lw) 20 67 (.val (.ref x) :: L) S k n H Q ↔ W (pj lw) 20 68 (.val (.ref x) :: L) (.ref x :: S) k n H Q := W_s (rfl : (pj lw).1 20 67 = some (.aload_n 0, 1, 0)) rfl rfl rfl
theorem w20_68 {a : Nat} : W (pj lw) 20 68 L (.ref a :: S) k n H Q ↔ (isO H a = true ∧ W (pj lw) 20 71 L (fld H a 24 :: S) k n H Q) := W_getf (rfl : (pj lw).1 20 68 = some (.getfield 16, 3, 24))
theorem w20_71 {x : Int32} {l0 l1 l2 l3 l4 : Slot} : W (pj lw) 20 71 (l0 :: l1 :: l2 :: l3 :: l4 :: .val (.int x) :: L) S k n H Q ↔ W (pj lw) 20 73 (l0 :: l1 :: l2 :: l3 :: l4 :: .val (.int x) :: L) (.int x :: S) k n H Q := W_s (rfl : (pj lw).1 20 71 = some (.iload 5, 2, 0)) rfl rfl rfl
theorem w20_73 {x : Nat} : W (pj lw) 20 73 (.val (.ref x) :: L) S k n H Q ↔ W (pj lw) 20 74 (.val (.ref x) :: L) (.ref x :: S) k n H Q := W_s (rfl : (pj lw).1 20 73 = some (.aload_n 0, 1, 0)) rfl rfl rfl
theorem w20_74 {a : Nat} : W (pj lw) 20 74 L (.ref a :: S) k n H Q ↔ (isO H a = true ∧ W (pj lw) 20 77 L (fld H a 24 :: S) k n H Q) := W_getf (rfl : (pj lw).1 20 74 = some (.getfield 16, 3, 24))
theorem w20_77 {x : Int32} {l0 l1 l2 : Slot} : W (pj lw) 20 77 (l0 :: l1 :: l2 :: .val (.int x) :: L) S k n H Q ↔ W (pj lw) 20 78 (l0 :: l1 :: l2 :: .val (.int x) :: L) (.int x :: S) k n H Q := W_s (rfl : (pj lw).1 20 77 = some (.iload_n 3, 1, 0)) rfl rfl rfl
theorem w20_78 {i : Int32} {a : Nat} : W (pj lw) 20 78 L (.int i :: .ref a :: S) k n H Q ↔ (inA H a .int i = true ∧ W (pj lw) 20 79 L (elt H a i :: S) k n H Q) := W_iaload (rfl : (pj lw).1 20 78 = some (.iaload, 1, 0))
theorem w20_79 {x i : Int32} {a : Nat} : W (pj lw) 20 79 L (.int x :: .int i :: .ref a :: S) k n H Q ↔ (inAw H a .int i = true ∧ W (pj lw) 20 80 L S k n (wr H a i.toNatClampNeg (.int x)) Q) := W_iastore (rfl : (pj lw).1 20 79 = some (.iastore, 1, 0))
theorem w20_80 {x : Nat} : W (pj lw) 20 80 (.val (.ref x) :: L) S k n H Q ↔ W (pj lw) 20 81 (.val (.ref x) :: L) (.ref x :: S) k n H Q := W_s (rfl : (pj lw).1 20 80 = some (.aload_n 0, 1, 0)) rfl rfl rfl
theorem w20_81 {a : Nat} : W (pj lw) 20 81 L (.ref a :: S) k n H Q ↔ (isO H a = true ∧ W (pj lw) 20 84 L (fld H a 25 :: S) k n H Q) := W_getf (rfl : (pj lw).1 20 81 = some (.getfield 20, 3, 25))
theorem w20_84 {x : Int32} {l0 l1 l2 l3 l4 : Slot} : W (pj lw) 20 84 (l0 :: l1 :: l2 :: l3 :: l4 :: .val (.int x) :: L) S k n H Q ↔ W (pj lw) 20 86 (l0 :: l1 :: l2 :: l3 :: l4 :: .val (.int x) :: L) (.int x :: S) k n H Q := W_s (rfl : (pj lw).1 20 84 = some (.iload 5, 2, 0)) rfl rfl rfl
theorem w20_86 {x : Nat} : W (pj lw) 20 86 (.val (.ref x) :: L) S k n H Q ↔ W (pj lw) 20 87 (.val (.ref x) :: L) (.ref x :: S) k n H Q := W_s (rfl : (pj lw).1 20 86 = some (.aload_n 0, 1, 0)) rfl rfl rfl
theorem w20_87 {a : Nat} : W (pj lw) 20 87 L (.ref a :: S) k n H Q ↔ (isO H a = true ∧ W (pj lw) 20 90 L (fld H a 25 :: S) k n H Q) := W_getf (rfl : (pj lw).1 20 87 = some (.getfield 20, 3, 25))
theorem w20_90 {x : Int32} {l0 l1 l2 : Slot} : W (pj lw) 20 90 (l0 :: l1 :: l2 :: .val (.int x) :: L) S k n H Q ↔ W (pj lw) 20 91 (l0 :: l1 :: l2 :: .val (.int x) :: L) (.int x :: S) k n H Q := W_s (rfl : (pj lw).1 20 90 = some (.iload_n 3, 1, 0)) rfl rfl rfl
theorem w20_91 {i : Int32} {a : Nat} : W (pj lw) 20 91 L (.int i :: .ref a :: S) k n H Q ↔ (inA H a .int i = true ∧ W (pj lw) 20 92 L (elt H a i :: S) k n H Q) := W_iaload (rfl : (pj lw).1 20 91 = some (.iaload, 1, 0))
theorem w20_92 {x i : Int32} {a : Nat} : W (pj lw) 20 92 L (.int x :: .int i :: .ref a :: S) k n H Q ↔ (inAw H a .int i = true ∧ W (pj lw) 20 93 L S k n (wr H a i.toNatClampNeg (.int x)) Q) := W_iastore (rfl : (pj lw).1 20 92 = some (.iastore, 1, 0))
theorem w20_93 {x : Nat} : W (pj lw) 20 93 (.val (.ref x) :: L) S k n H Q ↔ W (pj lw) 20 94 (.val (.ref x) :: L) (.ref x :: S) k n H Q := W_s (rfl : (pj lw).1 20 93 = some (.aload_n 0, 1, 0)) rfl rfl rfl
theorem w20_94 {a : Nat} : W (pj lw) 20 94 L (.ref a :: S) k n H Q ↔ (isO H a = true ∧ W (pj lw) 20 97 L (fld H a 26 :: S) k n H Q) := W_getf (rfl : (pj lw).1 20 94 = some (.getfield 23, 3, 26))
theorem w20_97 {x : Int32} {l0 l1 l2 l3 l4 : Slot} : W (pj lw) 20 97 (l0 :: l1 :: l2 :: l3 :: l4 :: .val (.int x) :: L) S k n H Q ↔ W (pj lw) 20 99 (l0 :: l1 :: l2 :: l3 :: l4 :: .val (.int x) :: L) (.int x :: S) k n H Q := W_s (rfl : (pj lw).1 20 97 = some (.iload 5, 2, 0)) rfl rfl rfl
theorem w20_99 {x : Nat} : W (pj lw) 20 99 (.val (.ref x) :: L) S k n H Q ↔ W (pj lw) 20 100 (.val (.ref x) :: L) (.ref x :: S) k n H Q := W_s (rfl : (pj lw).1 20 99 = some (.aload_n 0, 1, 0)) rfl rfl rfl
theorem w20_100 {a : Nat} : W (pj lw) 20 100 L (.ref a :: S) k n H Q ↔ (isO H a = true ∧ W (pj lw) 20 103 L (fld H a 26 :: S) k n H Q) := W_getf (rfl : (pj lw).1 20 100 = some (.getfield 23, 3, 26))
theorem w20_103 {x : Int32} {l0 l1 l2 : Slot} : W (pj lw) 20 103 (l0 :: l1 :: l2 :: .val (.int x) :: L) S k n H Q ↔ W (pj lw) 20 104 (l0 :: l1 :: l2 :: .val (.int x) :: L) (.int x :: S) k n H Q := W_s (rfl : (pj lw).1 20 103 = some (.iload_n 3, 1, 0)) rfl rfl rfl
theorem w20_104 {i : Int32} {a : Nat} : W (pj lw) 20 104 L (.int i :: .ref a :: S) k n H Q ↔ ((inA H a .byte i = true ∨ inA H a .boolean i = true) ∧ W (pj lw) 20 105 L (elt H a i :: S) k n H Q) := W_baload (rfl : (pj lw).1 20 104 = some (.baload, 1, 0))
theorem w20_105 {x i : Int32} {a : Nat} : W (pj lw) 20 105 L (.int x :: .int i :: .ref a :: S) k n H Q ↔ (((inAw H a .byte i = true ∧ okv .byte (.int x) = true) ∨ (inAw H a .boolean i = true ∧ okv .boolean (.int x) = true)) ∧ W (pj lw) 20 106 L S k n (wr H a i.toNatClampNeg (.int x)) Q) := W_bastore (rfl : (pj lw).1 20 105 = some (.bastore, 1, 0))
theorem w20_106 {x : Nat} : W (pj lw) 20 106 (.val (.ref x) :: L) S k n H Q ↔ W (pj lw) 20 107 (.val (.ref x) :: L) (.ref x :: S) k n H Q := W_s (rfl : (pj lw).1 20 106 = some (.aload_n 0, 1, 0)) rfl rfl rfl
theorem w20_107 {a : Nat} : W (pj lw) 20 107 L (.ref a :: S) k n H Q ↔ (isO H a = true ∧ W (pj lw) 20 110 L (fld H a 23 :: S) k n H Q) := W_getf (rfl : (pj lw).1 20 107 = some (.getfield 13, 3, 23))
theorem w20_110 {x : Int32} {l0 l1 l2 : Slot} : W (pj lw) 20 110 (l0 :: l1 :: l2 :: .val (.int x) :: L) S k n H Q ↔ W (pj lw) 20 111 (l0 :: l1 :: l2 :: .val (.int x) :: L) (.int x :: S) k n H Q := W_s (rfl : (pj lw).1 20 110 = some (.iload_n 3, 1, 0)) rfl rfl rfl
theorem w20_111 : W (pj lw) 20 111 L S k n H Q ↔ W (pj lw) 20 112 L (.int 0 :: S) k n H Q := W_s (rfl : (pj lw).1 20 111 = some (.iconst 0, 1, 0)) rfl rfl rfl
theorem w20_112 {x i : Int32} {a : Nat} : W (pj lw) 20 112 L (.int x :: .int i :: .ref a :: S) k n H Q ↔ (((inAw H a .byte i = true ∧ okv .byte (.int x) = true) ∨ (inAw H a .boolean i = true ∧ okv .boolean (.int x) = true)) ∧ W (pj lw) 20 113 L S k n (wr H a i.toNatClampNeg (.int x)) Q) := W_bastore (rfl : (pj lw).1 20 112 = some (.bastore, 1, 0))
theorem w20_113 {x : Nat} : W (pj lw) 20 113 (.val (.ref x) :: L) S k n H Q ↔ W (pj lw) 20 114 (.val (.ref x) :: L) (.ref x :: S) k n H Q := W_s (rfl : (pj lw).1 20 113 = some (.aload_n 0, 1, 0)) rfl rfl rfl
theorem w20_114 {x : Nat} : W (pj lw) 20 114 L (.ref x :: S) k n H Q ↔ W (pj lw) 20 115 L (.ref x :: .ref x :: S) k n H Q := W_s (rfl : (pj lw).1 20 114 = some (.dup, 1, 0)) rfl rfl rfl
theorem w20_115 {a : Nat} : W (pj lw) 20 115 L (.ref a :: S) k n H Q ↔ (isO H a = true ∧ W (pj lw) 20 118 L (fld H a 17 :: S) k n H Q) := W_getf (rfl : (pj lw).1 20 115 = some (.getfield 175, 3, 17))
theorem w20_118 : W (pj lw) 20 118 L S k n H Q ↔ W (pj lw) 20 119 L (.long 1 :: S) k n H Q := W_s (rfl : (pj lw).1 20 118 = some (.lconst 1, 1, 0)) rfl rfl rfl
theorem w20_119 {x y : Int64} : W (pj lw) 20 119 L (.long y :: .long x :: S) k n H Q ↔ W (pj lw) 20 120 L (.long (x + y) :: S) k n H Q := W_s (rfl : (pj lw).1 20 119 = some (.ladd, 1, 0)) rfl rfl rfl
theorem w20_120 {a : Nat} {v : Value} : W (pj lw) 20 120 L (v :: .ref a :: S) k n H Q ↔ ((isOw H a = true ∧ okv (.long) v = true) ∧ W (pj lw) 20 123 L S k n (wr H a 17 v) Q) := W_putf (rfl : (pj lw).1 20 120 = some (.putfield 175, 3, 17))
theorem w20_123 : W (pj lw) 20 123 L [] k n H Q ↔ Q none H := W_r (rfl : (pj lw).1 20 123 = some (.return_, 1, 0)) rfl
theorem c21 {x0 : Nat} : Cl (pj lw) 21 [.ref x0] H Q ↔ W (pj lw) 21 0 [.val (.ref x0), .unset, .unset] [] 0 0 H Q := cl_unf rfl
theorem w21_0 : W (pj lw) 21 0 L S k n H Q ↔ W (pj lw) 21 1 L (.int 0 :: S) k n H Q := W_s (rfl : (pj lw).1 21 0 = some (.iconst 0, 1, 0)) rfl rfl rfl
theorem w21_1 {x : Int32} {l0 : Slot} : W (pj lw) 21 1 (l0 :: .unset :: L) (.int x :: S) k n H Q ↔ W (pj lw) 21 2 (l0 :: .val (.int x) :: L) S k n H Q := W_istn (rfl : (pj lw).1 21 1 = some (.istore_n 1, 1, 0)) rfl rfl
theorem w21_2 {x : Int32} {l0 : Slot} : W (pj lw) 21 2 (l0 :: .val (.int x) :: L) S k n H Q ↔ W (pj lw) 21 3 (l0 :: .val (.int x) :: L) (.int x :: S) k n H Q := W_s (rfl : (pj lw).1 21 2 = some (.iload_n 1, 1, 0)) rfl rfl rfl
theorem w21_3 {x : Nat} : W (pj lw) 21 3 (.val (.ref x) :: L) S k n H Q ↔ W (pj lw) 21 4 (.val (.ref x) :: L) (.ref x :: S) k n H Q := W_s (rfl : (pj lw).1 21 3 = some (.aload_n 0, 1, 0)) rfl rfl rfl
theorem w21_4 {a : Nat} : W (pj lw) 21 4 L (.ref a :: S) k n H Q ↔ (isO H a = true ∧ W (pj lw) 21 7 L (fld H a 1 :: S) k n H Q) := W_getf (rfl : (pj lw).1 21 4 = some (.getfield 68, 3, 1))
theorem w21_7 {x y : Int32} : W (pj lw) 21 7 L (.int y :: .int x :: S) k n H Q ↔ (if x < y then W (pj lw) 21 10 L S k n H Q else W (pj lw) 21 53 L S k n H Q) := W_icmp_ge (rfl : (pj lw).1 21 7 = some (.if_icmp .ge 46, 3, 0)) rfl
theorem w21_10 : W (pj lw) 21 10 L S k n H Q ↔ W (pj lw) 21 11 L (.int 0 :: S) k n H Q := W_s (rfl : (pj lw).1 21 10 = some (.iconst 0, 1, 0)) rfl rfl rfl
theorem w21_11i {y : Int32} {x : Int32} {l0 l1 : Slot} : W (pj lw) 21 11 (l0 :: l1 :: .val (.int y) :: L) (.int x :: S) k n H Q ↔ W (pj lw) 21 12 (l0 :: l1 :: .val (.int x) :: L) S k n H Q := W_istn (rfl : (pj lw).1 21 11 = some (.istore_n 2, 1, 0)) rfl rfl
theorem w21_11 {x : Int32} {l0 l1 : Slot} : W (pj lw) 21 11 (l0 :: l1 :: .unset :: L) (.int x :: S) k n H Q ↔ W (pj lw) 21 12 (l0 :: l1 :: .val (.int x) :: L) S k n H Q := W_istn (rfl : (pj lw).1 21 11 = some (.istore_n 2, 1, 0)) rfl rfl
theorem w21_12 {x : Int32} {l0 l1 : Slot} : W (pj lw) 21 12 (l0 :: l1 :: .val (.int x) :: L) S k n H Q ↔ W (pj lw) 21 13 (l0 :: l1 :: .val (.int x) :: L) (.int x :: S) k n H Q := W_s (rfl : (pj lw).1 21 12 = some (.iload_n 2, 1, 0)) rfl rfl rfl
theorem w21_13 {x : Nat} : W (pj lw) 21 13 (.val (.ref x) :: L) S k n H Q ↔ W (pj lw) 21 14 (.val (.ref x) :: L) (.ref x :: S) k n H Q := W_s (rfl : (pj lw).1 21 13 = some (.aload_n 0, 1, 0)) rfl rfl rfl
theorem w21_14 {a : Nat} : W (pj lw) 21 14 L (.ref a :: S) k n H Q ↔ (isO H a = true ∧ W (pj lw) 21 17 L (fld H a 0 :: S) k n H Q) := W_getf (rfl : (pj lw).1 21 14 = some (.getfield 64, 3, 0))
theorem w21_17 {x y : Int32} : W (pj lw) 21 17 L (.int y :: .int x :: S) k n H Q ↔ (if x < y then W (pj lw) 21 20 L S k n H Q else W (pj lw) 21 47 L S k n H Q) := W_icmp_ge (rfl : (pj lw).1 21 17 = some (.if_icmp .ge 30, 3, 0)) rfl
theorem w21_20 {x : Nat} : W (pj lw) 21 20 (.val (.ref x) :: L) S k n H Q ↔ W (pj lw) 21 21 (.val (.ref x) :: L) (.ref x :: S) k n H Q := W_s (rfl : (pj lw).1 21 20 = some (.aload_n 0, 1, 0)) rfl rfl rfl
theorem w21_21 {a : Nat} : W (pj lw) 21 21 L (.ref a :: S) k n H Q ↔ (isO H a = true ∧ W (pj lw) 21 24 L (fld H a 23 :: S) k n H Q) := W_getf (rfl : (pj lw).1 21 21 = some (.getfield 13, 3, 23))
theorem w21_24 {x : Int32} {l0 : Slot} : W (pj lw) 21 24 (l0 :: .val (.int x) :: L) S k n H Q ↔ W (pj lw) 21 25 (l0 :: .val (.int x) :: L) (.int x :: S) k n H Q := W_s (rfl : (pj lw).1 21 24 = some (.iload_n 1, 1, 0)) rfl rfl rfl
theorem w21_25 : W (pj lw) 21 25 L S k n H Q ↔ W (pj lw) 21 28 L (.int 128 :: S) k n H Q := W_s (rfl : (pj lw).1 21 25 = some (.sipush 128, 3, 0)) rfl rfl rfl
theorem w21_28 {x y : Int32} : W (pj lw) 21 28 L (.int y :: .int x :: S) k n H Q ↔ W (pj lw) 21 29 L (.int (x * y) :: S) k n H Q := W_s (rfl : (pj lw).1 21 28 = some (.imul, 1, 0)) rfl rfl rfl
theorem w21_29 {x : Int32} {l0 l1 : Slot} : W (pj lw) 21 29 (l0 :: l1 :: .val (.int x) :: L) S k n H Q ↔ W (pj lw) 21 30 (l0 :: l1 :: .val (.int x) :: L) (.int x :: S) k n H Q := W_s (rfl : (pj lw).1 21 29 = some (.iload_n 2, 1, 0)) rfl rfl rfl
theorem w21_30 {x y : Int32} : W (pj lw) 21 30 L (.int y :: .int x :: S) k n H Q ↔ W (pj lw) 21 31 L (.int (x + y) :: S) k n H Q := W_s (rfl : (pj lw).1 21 30 = some (.iadd, 1, 0)) rfl rfl rfl
theorem w21_31 {i : Int32} {a : Nat} : W (pj lw) 21 31 L (.int i :: .ref a :: S) k n H Q ↔ ((inA H a .byte i = true ∨ inA H a .boolean i = true) ∧ W (pj lw) 21 32 L (elt H a i :: S) k n H Q) := W_baload (rfl : (pj lw).1 21 31 = some (.baload, 1, 0))
theorem w21_32 {x : Int32} : W (pj lw) 21 32 L (.int x :: S) k n H Q ↔ (if x = 0 then W (pj lw) 21 41 L S k n H Q else W (pj lw) 21 35 L S k n H Q) := W_if_eq (rfl : (pj lw).1 21 32 = some (.ifCond .eq 9, 3, 0)) rfl
theorem w21_35 {x : Nat} : W (pj lw) 21 35 (.val (.ref x) :: L) S k n H Q ↔ W (pj lw) 21 36 (.val (.ref x) :: L) (.ref x :: S) k n H Q := W_s (rfl : (pj lw).1 21 35 = some (.aload_n 0, 1, 0)) rfl rfl rfl
theorem w21_36 {x : Int32} {l0 : Slot} : W (pj lw) 21 36 (l0 :: .val (.int x) :: L) S k n H Q ↔ W (pj lw) 21 37 (l0 :: .val (.int x) :: L) (.int x :: S) k n H Q := W_s (rfl : (pj lw).1 21 36 = some (.iload_n 1, 1, 0)) rfl rfl rfl
theorem w21_37 {x : Int32} {l0 l1 : Slot} : W (pj lw) 21 37 (l0 :: l1 :: .val (.int x) :: L) S k n H Q ↔ W (pj lw) 21 38 (l0 :: l1 :: .val (.int x) :: L) (.int x :: S) k n H Q := W_s (rfl : (pj lw).1 21 37 = some (.iload_n 2, 1, 0)) rfl rfl rfl
theorem w21_38 {a : Nat} {x0 : Int32} {x1 : Int32} : W (pj lw) 21 38 L (.int x1 :: .int x0 :: .ref a :: S) k n H Q ↔ ((isO H a = true ∧ cs S + (9 + 11) + 31 ≤ 51) ∧ Cl (pj lw) 22 [.ref a, .int x0, .int x1] H (fun v H => W (pj lw) 21 41 L (v.toList ++ S) k n H Q)) := W_inst (as := [.int x0, .int x1]) (rfl : (pj lw).1 21 38 = some (.invokevirtual 178, 3, 22)) rfl rfl rfl (Nat.le_of_ble_eq_true rfl) (Nat.le_of_ble_eq_true rfl) ⟨rfl, rfl⟩
theorem w21_41 {x : Int32} {l0 l1 : Slot} : W (pj lw) 21 41 (l0 :: l1 :: .val (.int x) :: L) S k n H Q ↔ W (pj lw) 21 44 (l0 :: l1 :: .val (.int (x + 1)) :: L) S k n H Q := W_s (rfl : (pj lw).1 21 41 = some (.iinc 2 1, 3, 0)) rfl rfl rfl
theorem w21_44 : W (pj lw) 21 44 L S k n H Q ↔ W (pj lw) 21 12 L S k n H Q := W_goto (rfl : (pj lw).1 21 44 = some (.goto (-32), 3, 0)) rfl
theorem w21_47 {x : Int32} {l0 : Slot} : W (pj lw) 21 47 (l0 :: .val (.int x) :: L) S k n H Q ↔ W (pj lw) 21 50 (l0 :: .val (.int (x + 1)) :: L) S k n H Q := W_s (rfl : (pj lw).1 21 47 = some (.iinc 1 1, 3, 0)) rfl rfl rfl
theorem w21_50 : W (pj lw) 21 50 L S k n H Q ↔ W (pj lw) 21 2 L S k n H Q := W_goto (rfl : (pj lw).1 21 50 = some (.goto (-48), 3, 0)) rfl
theorem w21_53 : W (pj lw) 21 53 L [] k n H Q ↔ Q none H := W_r (rfl : (pj lw).1 21 53 = some (.return_, 1, 0)) rfl
theorem c22 {x0 : Nat} {x1 : Int32} {x2 : Int32} : Cl (pj lw) 22 [.ref x0, .int x1, .int x2] H Q ↔ W (pj lw) 22 0 [.val (.ref x0), .val (.int x1), .val (.int x2), .unset, .unset, .unset, .unset, .unset, .unset] [] 0 0 H Q := cl_unf rfl
theorem w22_0 {x : Int32} {l0 : Slot} : W (pj lw) 22 0 (l0 :: .val (.int x) :: L) S k n H Q ↔ W (pj lw) 22 1 (l0 :: .val (.int x) :: L) (.int x :: S) k n H Q := W_s (rfl : (pj lw).1 22 0 = some (.iload_n 1, 1, 0)) rfl rfl rfl
theorem w22_1 : W (pj lw) 22 1 L S k n H Q ↔ W (pj lw) 22 4 L (.int 128 :: S) k n H Q := W_s (rfl : (pj lw).1 22 1 = some (.sipush 128, 3, 0)) rfl rfl rfl
theorem w22_4 {x y : Int32} : W (pj lw) 22 4 L (.int y :: .int x :: S) k n H Q ↔ W (pj lw) 22 5 L (.int (x * y) :: S) k n H Q := W_s (rfl : (pj lw).1 22 4 = some (.imul, 1, 0)) rfl rfl rfl
theorem w22_5 {x : Int32} {l0 l1 : Slot} : W (pj lw) 22 5 (l0 :: l1 :: .val (.int x) :: L) S k n H Q ↔ W (pj lw) 22 6 (l0 :: l1 :: .val (.int x) :: L) (.int x :: S) k n H Q := W_s (rfl : (pj lw).1 22 5 = some (.iload_n 2, 1, 0)) rfl rfl rfl
theorem w22_6 {x y : Int32} : W (pj lw) 22 6 L (.int y :: .int x :: S) k n H Q ↔ W (pj lw) 22 7 L (.int (x + y) :: S) k n H Q := W_s (rfl : (pj lw).1 22 6 = some (.iadd, 1, 0)) rfl rfl rfl
theorem w22_7 {x : Int32} {l0 l1 l2 : Slot} : W (pj lw) 22 7 (l0 :: l1 :: l2 :: .unset :: L) (.int x :: S) k n H Q ↔ W (pj lw) 22 8 (l0 :: l1 :: l2 :: .val (.int x) :: L) S k n H Q := W_istn (rfl : (pj lw).1 22 7 = some (.istore_n 3, 1, 0)) rfl rfl
theorem w22_8 {x : Nat} : W (pj lw) 22 8 (.val (.ref x) :: L) S k n H Q ↔ W (pj lw) 22 9 (.val (.ref x) :: L) (.ref x :: S) k n H Q := W_s (rfl : (pj lw).1 22 8 = some (.aload_n 0, 1, 0)) rfl rfl rfl
theorem w22_9 {a : Nat} : W (pj lw) 22 9 L (.ref a :: S) k n H Q ↔ (isO H a = true ∧ W (pj lw) 22 12 L (fld H a 24 :: S) k n H Q) := W_getf (rfl : (pj lw).1 22 9 = some (.getfield 16, 3, 24))
theorem w22_12 {x : Int32} {l0 l1 l2 : Slot} : W (pj lw) 22 12 (l0 :: l1 :: l2 :: .val (.int x) :: L) S k n H Q ↔ W (pj lw) 22 13 (l0 :: l1 :: l2 :: .val (.int x) :: L) (.int x :: S) k n H Q := W_s (rfl : (pj lw).1 22 12 = some (.iload_n 3, 1, 0)) rfl rfl rfl
theorem w22_13 {i : Int32} {a : Nat} : W (pj lw) 22 13 L (.int i :: .ref a :: S) k n H Q ↔ (inA H a .int i = true ∧ W (pj lw) 22 14 L (elt H a i :: S) k n H Q) := W_iaload (rfl : (pj lw).1 22 13 = some (.iaload, 1, 0))
theorem w22_14 : W (pj lw) 22 14 L S k n H Q ↔ W (pj lw) 22 15 L (.int 1 :: S) k n H Q := W_s (rfl : (pj lw).1 22 14 = some (.iconst 1, 1, 0)) rfl rfl rfl
theorem w22_15 {x y : Int32} : W (pj lw) 22 15 L (.int y :: .int x :: S) k n H Q ↔ W (pj lw) 22 16 L (.int (x + y) :: S) k n H Q := W_s (rfl : (pj lw).1 22 15 = some (.iadd, 1, 0)) rfl rfl rfl
theorem w22_16 {x : Int32} {l0 l1 l2 l3 : Slot} : W (pj lw) 22 16 (l0 :: l1 :: l2 :: l3 :: .unset :: L) (.int x :: S) k n H Q ↔ W (pj lw) 22 18 (l0 :: l1 :: l2 :: l3 :: .val (.int x) :: L) S k n H Q := W_ist (rfl : (pj lw).1 22 16 = some (.istore 4, 2, 0)) rfl rfl
theorem w22_18 {x : Int32} {l0 l1 l2 l3 : Slot} : W (pj lw) 22 18 (l0 :: l1 :: l2 :: l3 :: .val (.int x) :: L) S k n H Q ↔ W (pj lw) 22 20 (l0 :: l1 :: l2 :: l3 :: .val (.int x) :: L) (.int x :: S) k n H Q := W_s (rfl : (pj lw).1 22 18 = some (.iload 4, 2, 0)) rfl rfl rfl
theorem w22_20 {x : Nat} : W (pj lw) 22 20 (.val (.ref x) :: L) S k n H Q ↔ W (pj lw) 22 21 (.val (.ref x) :: L) (.ref x :: S) k n H Q := W_s (rfl : (pj lw).1 22 20 = some (.aload_n 0, 1, 0)) rfl rfl rfl
theorem w22_21 {a : Nat} : W (pj lw) 22 21 L (.ref a :: S) k n H Q ↔ (isO H a = true ∧ W (pj lw) 22 24 L (fld H a 2 :: S) k n H Q) := W_getf (rfl : (pj lw).1 22 21 = some (.getfield 71, 3, 2))
theorem w22_24 {x y : Int32} : W (pj lw) 22 24 L (.int y :: .int x :: S) k n H Q ↔ (if y < x then W (pj lw) 22 27 L S k n H Q else W (pj lw) 22 33 L S k n H Q) := W_icmp_le (rfl : (pj lw).1 22 24 = some (.if_icmp .le 9, 3, 0)) rfl
theorem w22_27 {x : Nat} : W (pj lw) 22 27 (.val (.ref x) :: L) S k n H Q ↔ W (pj lw) 22 28 (.val (.ref x) :: L) (.ref x :: S) k n H Q := W_s (rfl : (pj lw).1 22 27 = some (.aload_n 0, 1, 0)) rfl rfl rfl
theorem w22_28 {a : Nat} : W (pj lw) 22 28 L (.ref a :: S) k n H Q ↔ (isO H a = true ∧ W (pj lw) 22 31 L (fld H a 2 :: S) k n H Q) := W_getf (rfl : (pj lw).1 22 28 = some (.getfield 71, 3, 2))
theorem w22_31i {y : Int32} {x : Int32} {l0 l1 l2 l3 : Slot} : W (pj lw) 22 31 (l0 :: l1 :: l2 :: l3 :: .val (.int y) :: L) (.int x :: S) k n H Q ↔ W (pj lw) 22 33 (l0 :: l1 :: l2 :: l3 :: .val (.int x) :: L) S k n H Q := W_ist (rfl : (pj lw).1 22 31 = some (.istore 4, 2, 0)) rfl rfl
theorem w22_33 {x : Nat} : W (pj lw) 22 33 (.val (.ref x) :: L) S k n H Q ↔ W (pj lw) 22 34 (.val (.ref x) :: L) (.ref x :: S) k n H Q := W_s (rfl : (pj lw).1 22 33 = some (.aload_n 0, 1, 0)) rfl rfl rfl
theorem w22_34 {x : Int32} {l0 : Slot} : W (pj lw) 22 34 (l0 :: .val (.int x) :: L) S k n H Q ↔ W (pj lw) 22 35 (l0 :: .val (.int x) :: L) (.int x :: S) k n H Q := W_s (rfl : (pj lw).1 22 34 = some (.iload_n 1, 1, 0)) rfl rfl rfl
theorem w22_35 {x : Int32} {l0 l1 : Slot} : W (pj lw) 22 35 (l0 :: l1 :: .val (.int x) :: L) S k n H Q ↔ W (pj lw) 22 36 (l0 :: l1 :: .val (.int x) :: L) (.int x :: S) k n H Q := W_s (rfl : (pj lw).1 22 35 = some (.iload_n 2, 1, 0)) rfl rfl rfl
theorem w22_36 {a : Nat} {x0 : Int32} {x1 : Int32} : W (pj lw) 22 36 L (.int x1 :: .int x0 :: .ref a :: S) k n H Q ↔ ((isO H a = true ∧ cs S + (6 + 11) + 14 ≤ 31) ∧ Cl (pj lw) 15 [.ref a, .int x0, .int x1] H (fun v H => W (pj lw) 22 39 L (v.toList ++ S) k n H Q)) := W_inst (as := [.int x0, .int x1]) (rfl : (pj lw).1 22 36 = some (.invokevirtual 168, 3, 15)) rfl rfl rfl (Nat.le_of_ble_eq_true rfl) (Nat.le_of_ble_eq_true rfl) ⟨rfl, rfl⟩
theorem w22_39 {x : Int32} {l0 l1 l2 l3 l4 : Slot} : W (pj lw) 22 39 (l0 :: l1 :: l2 :: l3 :: l4 :: .unset :: L) (.int x :: S) k n H Q ↔ W (pj lw) 22 41 (l0 :: l1 :: l2 :: l3 :: l4 :: .val (.int x) :: L) S k n H Q := W_ist (rfl : (pj lw).1 22 39 = some (.istore 5, 2, 0)) rfl rfl
theorem w22_41 {x : Int32} {l0 l1 l2 l3 : Slot} : W (pj lw) 22 41 (l0 :: l1 :: l2 :: l3 :: .val (.int x) :: L) S k n H Q ↔ W (pj lw) 22 43 (l0 :: l1 :: l2 :: l3 :: .val (.int x) :: L) (.int x :: S) k n H Q := W_s (rfl : (pj lw).1 22 41 = some (.iload 4, 2, 0)) rfl rfl rfl
theorem w22_43 {x : Int32} {l0 l1 l2 l3 l4 : Slot} : W (pj lw) 22 43 (l0 :: l1 :: l2 :: l3 :: l4 :: .val (.int x) :: L) S k n H Q ↔ W (pj lw) 22 45 (l0 :: l1 :: l2 :: l3 :: l4 :: .val (.int x) :: L) (.int x :: S) k n H Q := W_s (rfl : (pj lw).1 22 43 = some (.iload 5, 2, 0)) rfl rfl rfl
theorem w22_45 {x y : Int32} : W (pj lw) 22 45 L (.int y :: .int x :: S) k n H Q ↔ (if x < y then W (pj lw) 22 48 L S k n H Q else W (pj lw) 22 53 L S k n H Q) := W_icmp_ge (rfl : (pj lw).1 22 45 = some (.if_icmp .ge 8, 3, 0)) rfl
theorem w22_48 {x : Int32} {l0 l1 l2 l3 : Slot} : W (pj lw) 22 48 (l0 :: l1 :: l2 :: l3 :: .val (.int x) :: L) S k n H Q ↔ W (pj lw) 22 50 (l0 :: l1 :: l2 :: l3 :: .val (.int x) :: L) (.int x :: S) k n H Q := W_s (rfl : (pj lw).1 22 48 = some (.iload 4, 2, 0)) rfl rfl rfl
theorem w22_50 : W (pj lw) 22 50 L S k n H Q ↔ W (pj lw) 22 55 L S k n H Q := W_goto (rfl : (pj lw).1 22 50 = some (.goto 5, 3, 0)) rfl
theorem w22_53 {x : Int32} {l0 l1 l2 l3 l4 : Slot} : W (pj lw) 22 53 (l0 :: l1 :: l2 :: l3 :: l4 :: .val (.int x) :: L) S k n H Q ↔ W (pj lw) 22 55 (l0 :: l1 :: l2 :: l3 :: l4 :: .val (.int x) :: L) (.int x :: S) k n H Q := W_s (rfl : (pj lw).1 22 53 = some (.iload 5, 2, 0)) rfl rfl rfl
theorem w22_55 {x : Int32} {l0 l1 l2 l3 l4 l5 : Slot} : W (pj lw) 22 55 (l0 :: l1 :: l2 :: l3 :: l4 :: l5 :: .unset :: L) (.int x :: S) k n H Q ↔ W (pj lw) 22 57 (l0 :: l1 :: l2 :: l3 :: l4 :: l5 :: .val (.int x) :: L) S k n H Q := W_ist (rfl : (pj lw).1 22 55 = some (.istore 6, 2, 0)) rfl rfl
theorem w22_57 {x : Nat} : W (pj lw) 22 57 (.val (.ref x) :: L) S k n H Q ↔ W (pj lw) 22 58 (.val (.ref x) :: L) (.ref x :: S) k n H Q := W_s (rfl : (pj lw).1 22 57 = some (.aload_n 0, 1, 0)) rfl rfl rfl
theorem w22_58 {a : Nat} : W (pj lw) 22 58 L (.ref a :: S) k n H Q ↔ ((isO H a = true ∧ cs S + (1 + 11) + 0 ≤ 31) ∧ Cl (pj lw) 13 [.ref a] H (fun v H => W (pj lw) 22 61 L (v.toList ++ S) k n H Q)) := W_inst (as := []) (rfl : (pj lw).1 22 58 = some (.invokevirtual 181, 3, 13)) rfl rfl rfl (Nat.le_of_ble_eq_true rfl) (Nat.le_of_ble_eq_true rfl) ⟨rfl, rfl⟩
theorem w22_61 {x : Int32} {l0 l1 l2 l3 l4 l5 l6 : Slot} : W (pj lw) 22 61 (l0 :: l1 :: l2 :: l3 :: l4 :: l5 :: l6 :: .unset :: L) (.int x :: S) k n H Q ↔ W (pj lw) 22 63 (l0 :: l1 :: l2 :: l3 :: l4 :: l5 :: l6 :: .val (.int x) :: L) S k n H Q := W_ist (rfl : (pj lw).1 22 61 = some (.istore 7, 2, 0)) rfl rfl
theorem w22_63 {x : Int32} {l0 l1 l2 l3 l4 l5 : Slot} : W (pj lw) 22 63 (l0 :: l1 :: l2 :: l3 :: l4 :: l5 :: .val (.int x) :: L) S k n H Q ↔ W (pj lw) 22 65 (l0 :: l1 :: l2 :: l3 :: l4 :: l5 :: .val (.int x) :: L) (.int x :: S) k n H Q := W_s (rfl : (pj lw).1 22 63 = some (.iload 6, 2, 0)) rfl rfl rfl
theorem w22_65 {x : Int32} {l0 l1 l2 l3 l4 l5 l6 l7 : Slot} : W (pj lw) 22 65 (l0 :: l1 :: l2 :: l3 :: l4 :: l5 :: l6 :: l7 :: .unset :: L) (.int x :: S) k n H Q ↔ W (pj lw) 22 67 (l0 :: l1 :: l2 :: l3 :: l4 :: l5 :: l6 :: l7 :: .val (.int x) :: L) S k n H Q := W_ist (rfl : (pj lw).1 22 65 = some (.istore 8, 2, 0)) rfl rfl
theorem w22_67 {x : Int32} {l0 l1 l2 l3 l4 l5 l6 : Slot} : W (pj lw) 22 67 (l0 :: l1 :: l2 :: l3 :: l4 :: l5 :: l6 :: .val (.int x) :: L) S k n H Q ↔ W (pj lw) 22 69 (l0 :: l1 :: l2 :: l3 :: l4 :: l5 :: l6 :: .val (.int x) :: L) (.int x :: S) k n H Q := W_s (rfl : (pj lw).1 22 67 = some (.iload 7, 2, 0)) rfl rfl rfl
theorem w22_69 : W (pj lw) 22 69 L S k n H Q ↔ W (pj lw) 22 71 L (.int 15 :: S) k n H Q := W_s (rfl : (pj lw).1 22 69 = some (.bipush 15, 2, 0)) rfl rfl rfl
theorem w22_71 {x y : Int32} : W (pj lw) 22 71 L (.int y :: .int x :: S) k n H Q ↔ W (pj lw) 22 72 L (.int (x &&& y) :: S) k n H Q := W_s (rfl : (pj lw).1 22 71 = some (.iand, 1, 0)) rfl rfl rfl
theorem w22_72 {x : Nat} : W (pj lw) 22 72 (.val (.ref x) :: L) S k n H Q ↔ W (pj lw) 22 73 (.val (.ref x) :: L) (.ref x :: S) k n H Q := W_s (rfl : (pj lw).1 22 72 = some (.aload_n 0, 1, 0)) rfl rfl rfl
theorem w22_73 {a : Nat} : W (pj lw) 22 73 L (.ref a :: S) k n H Q ↔ (isO H a = true ∧ W (pj lw) 22 76 L (fld H a 9 :: S) k n H Q) := W_getf (rfl : (pj lw).1 22 73 = some (.getfield 91, 3, 9))
theorem w22_76 {x y : Int32} : W (pj lw) 22 76 L (.int y :: .int x :: S) k n H Q ↔ (if x < y then W (pj lw) 22 79 L S k n H Q else W (pj lw) 22 90 L S k n H Q) := W_icmp_ge (rfl : (pj lw).1 22 76 = some (.if_icmp .ge 14, 3, 0)) rfl
theorem w22_79 {x : Int32} {l0 l1 l2 l3 l4 l5 : Slot} : W (pj lw) 22 79 (l0 :: l1 :: l2 :: l3 :: l4 :: l5 :: .val (.int x) :: L) S k n H Q ↔ W (pj lw) 22 81 (l0 :: l1 :: l2 :: l3 :: l4 :: l5 :: .val (.int x) :: L) (.int x :: S) k n H Q := W_s (rfl : (pj lw).1 22 79 = some (.iload 6, 2, 0)) rfl rfl rfl
theorem w22_81 {x : Int32} : W (pj lw) 22 81 L (.int x :: S) k n H Q ↔ (if 0 < x then W (pj lw) 22 84 L S k n H Q else W (pj lw) 22 90 L S k n H Q) := W_if_le (rfl : (pj lw).1 22 81 = some (.ifCond .le 9, 3, 0)) rfl
theorem w22_84 {x : Int32} {l0 l1 l2 l3 l4 l5 : Slot} : W (pj lw) 22 84 (l0 :: l1 :: l2 :: l3 :: l4 :: l5 :: .val (.int x) :: L) S k n H Q ↔ W (pj lw) 22 86 (l0 :: l1 :: l2 :: l3 :: l4 :: l5 :: .val (.int x) :: L) (.int x :: S) k n H Q := W_s (rfl : (pj lw).1 22 84 = some (.iload 6, 2, 0)) rfl rfl rfl
theorem w22_86 : W (pj lw) 22 86 L S k n H Q ↔ W (pj lw) 22 87 L (.int 1 :: S) k n H Q := W_s (rfl : (pj lw).1 22 86 = some (.iconst 1, 1, 0)) rfl rfl rfl
theorem w22_87 {x y : Int32} : W (pj lw) 22 87 L (.int y :: .int x :: S) k n H Q ↔ W (pj lw) 22 88 L (.int (x - y) :: S) k n H Q := W_s (rfl : (pj lw).1 22 87 = some (.isub, 1, 0)) rfl rfl rfl
theorem w22_88i {y : Int32} {x : Int32} {l0 l1 l2 l3 l4 l5 l6 l7 : Slot} : W (pj lw) 22 88 (l0 :: l1 :: l2 :: l3 :: l4 :: l5 :: l6 :: l7 :: .val (.int y) :: L) (.int x :: S) k n H Q ↔ W (pj lw) 22 90 (l0 :: l1 :: l2 :: l3 :: l4 :: l5 :: l6 :: l7 :: .val (.int x) :: L) S k n H Q := W_ist (rfl : (pj lw).1 22 88 = some (.istore 8, 2, 0)) rfl rfl
theorem w22_90 {x : Nat} : W (pj lw) 22 90 (.val (.ref x) :: L) S k n H Q ↔ W (pj lw) 22 91 (.val (.ref x) :: L) (.ref x :: S) k n H Q := W_s (rfl : (pj lw).1 22 90 = some (.aload_n 0, 1, 0)) rfl rfl rfl
theorem w22_91 {a : Nat} : W (pj lw) 22 91 L (.ref a :: S) k n H Q ↔ (isO H a = true ∧ W (pj lw) 22 94 L (fld H a 32 :: S) k n H Q) := W_getf (rfl : (pj lw).1 22 91 = some (.getfield 41, 3, 32))
theorem w22_94 {x : Int32} {l0 l1 l2 : Slot} : W (pj lw) 22 94 (l0 :: l1 :: l2 :: .val (.int x) :: L) S k n H Q ↔ W (pj lw) 22 95 (l0 :: l1 :: l2 :: .val (.int x) :: L) (.int x :: S) k n H Q := W_s (rfl : (pj lw).1 22 94 = some (.iload_n 3, 1, 0)) rfl rfl rfl
theorem w22_95 {x : Int32} {l0 l1 l2 l3 l4 l5 l6 l7 : Slot} : W (pj lw) 22 95 (l0 :: l1 :: l2 :: l3 :: l4 :: l5 :: l6 :: l7 :: .val (.int x) :: L) S k n H Q ↔ W (pj lw) 22 97 (l0 :: l1 :: l2 :: l3 :: l4 :: l5 :: l6 :: l7 :: .val (.int x) :: L) (.int x :: S) k n H Q := W_s (rfl : (pj lw).1 22 95 = some (.iload 8, 2, 0)) rfl rfl rfl
theorem w22_97 {x i : Int32} {a : Nat} : W (pj lw) 22 97 L (.int x :: .int i :: .ref a :: S) k n H Q ↔ (inAw H a .int i = true ∧ W (pj lw) 22 98 L S k n (wr H a i.toNatClampNeg (.int x)) Q) := W_iastore (rfl : (pj lw).1 22 97 = some (.iastore, 1, 0))
theorem w22_98 : W (pj lw) 22 98 L [] k n H Q ↔ Q none H := W_r (rfl : (pj lw).1 22 98 = some (.return_, 1, 0)) rfl
theorem c23 {x0 : Nat} : Cl (pj lw) 23 [.ref x0] H Q ↔ W (pj lw) 23 0 [.val (.ref x0), .unset, .unset] [] 0 0 H Q := cl_unf rfl
theorem w23_0 : W (pj lw) 23 0 L S k n H Q ↔ W (pj lw) 23 1 L (.int 0 :: S) k n H Q := W_s (rfl : (pj lw).1 23 0 = some (.iconst 0, 1, 0)) rfl rfl rfl
theorem w23_1 {x : Int32} {l0 : Slot} : W (pj lw) 23 1 (l0 :: .unset :: L) (.int x :: S) k n H Q ↔ W (pj lw) 23 2 (l0 :: .val (.int x) :: L) S k n H Q := W_istn (rfl : (pj lw).1 23 1 = some (.istore_n 1, 1, 0)) rfl rfl
theorem w23_2 {x : Int32} {l0 : Slot} : W (pj lw) 23 2 (l0 :: .val (.int x) :: L) S k n H Q ↔ W (pj lw) 23 3 (l0 :: .val (.int x) :: L) (.int x :: S) k n H Q := W_s (rfl : (pj lw).1 23 2 = some (.iload_n 1, 1, 0)) rfl rfl rfl
theorem w23_3 : W (pj lw) 23 3 L S k n H Q ↔ W (pj lw) 23 6 L (.int 384 :: S) k n H Q := W_s (rfl : (pj lw).1 23 3 = some (.sipush 384, 3, 0)) rfl rfl rfl
theorem w23_6 {x y : Int32} : W (pj lw) 23 6 L (.int y :: .int x :: S) k n H Q ↔ (if x < y then W (pj lw) 23 9 L S k n H Q else W (pj lw) 23 43 L S k n H Q) := W_icmp_ge (rfl : (pj lw).1 23 6 = some (.if_icmp .ge 37, 3, 0)) rfl
theorem w23_9 {x : Nat} : W (pj lw) 23 9 (.val (.ref x) :: L) S k n H Q ↔ W (pj lw) 23 10 (.val (.ref x) :: L) (.ref x :: S) k n H Q := W_s (rfl : (pj lw).1 23 9 = some (.aload_n 0, 1, 0)) rfl rfl rfl
theorem w23_10 {a : Nat} : W (pj lw) 23 10 L (.ref a :: S) k n H Q ↔ (isO H a = true ∧ W (pj lw) 23 13 L (fld H a 27 :: S) k n H Q) := W_getf (rfl : (pj lw).1 23 10 = some (.getfield 26, 3, 27))
theorem w23_13 {x : Int32} {l0 : Slot} : W (pj lw) 23 13 (l0 :: .val (.int x) :: L) S k n H Q ↔ W (pj lw) 23 14 (l0 :: .val (.int x) :: L) (.int x :: S) k n H Q := W_s (rfl : (pj lw).1 23 13 = some (.iload_n 1, 1, 0)) rfl rfl rfl
theorem w23_14 : W (pj lw) 23 14 L S k n H Q ↔ W (pj lw) 23 15 L (.int 0 :: S) k n H Q := W_s (rfl : (pj lw).1 23 14 = some (.iconst 0, 1, 0)) rfl rfl rfl
theorem w23_15 {x i : Int32} {a : Nat} : W (pj lw) 23 15 L (.int x :: .int i :: .ref a :: S) k n H Q ↔ (((inAw H a .byte i = true ∧ okv .byte (.int x) = true) ∨ (inAw H a .boolean i = true ∧ okv .boolean (.int x) = true)) ∧ W (pj lw) 23 16 L S k n (wr H a i.toNatClampNeg (.int x)) Q) := W_bastore (rfl : (pj lw).1 23 15 = some (.bastore, 1, 0))
theorem w23_16 {x : Nat} : W (pj lw) 23 16 (.val (.ref x) :: L) S k n H Q ↔ W (pj lw) 23 17 (.val (.ref x) :: L) (.ref x :: S) k n H Q := W_s (rfl : (pj lw).1 23 16 = some (.aload_n 0, 1, 0)) rfl rfl rfl
theorem w23_17 {a : Nat} : W (pj lw) 23 17 L (.ref a :: S) k n H Q ↔ (isO H a = true ∧ W (pj lw) 23 20 L (fld H a 28 :: S) k n H Q) := W_getf (rfl : (pj lw).1 23 17 = some (.getfield 29, 3, 28))
theorem w23_20 {x : Int32} {l0 : Slot} : W (pj lw) 23 20 (l0 :: .val (.int x) :: L) S k n H Q ↔ W (pj lw) 23 21 (l0 :: .val (.int x) :: L) (.int x :: S) k n H Q := W_s (rfl : (pj lw).1 23 20 = some (.iload_n 1, 1, 0)) rfl rfl rfl
theorem w23_21 : W (pj lw) 23 21 L S k n H Q ↔ W (pj lw) 23 22 L (.int 0 :: S) k n H Q := W_s (rfl : (pj lw).1 23 21 = some (.iconst 0, 1, 0)) rfl rfl rfl
theorem w23_22 {x i : Int32} {a : Nat} : W (pj lw) 23 22 L (.int x :: .int i :: .ref a :: S) k n H Q ↔ (inAw H a .int i = true ∧ W (pj lw) 23 23 L S k n (wr H a i.toNatClampNeg (.int x)) Q) := W_iastore (rfl : (pj lw).1 23 22 = some (.iastore, 1, 0))
theorem w23_23 {x : Nat} : W (pj lw) 23 23 (.val (.ref x) :: L) S k n H Q ↔ W (pj lw) 23 24 (.val (.ref x) :: L) (.ref x :: S) k n H Q := W_s (rfl : (pj lw).1 23 23 = some (.aload_n 0, 1, 0)) rfl rfl rfl
theorem w23_24 {a : Nat} : W (pj lw) 23 24 L (.ref a :: S) k n H Q ↔ (isO H a = true ∧ W (pj lw) 23 27 L (fld H a 29 :: S) k n H Q) := W_getf (rfl : (pj lw).1 23 24 = some (.getfield 32, 3, 29))
theorem w23_27 {x : Int32} {l0 : Slot} : W (pj lw) 23 27 (l0 :: .val (.int x) :: L) S k n H Q ↔ W (pj lw) 23 28 (l0 :: .val (.int x) :: L) (.int x :: S) k n H Q := W_s (rfl : (pj lw).1 23 27 = some (.iload_n 1, 1, 0)) rfl rfl rfl
theorem w23_28 : W (pj lw) 23 28 L S k n H Q ↔ W (pj lw) 23 29 L (.int 0 :: S) k n H Q := W_s (rfl : (pj lw).1 23 28 = some (.iconst 0, 1, 0)) rfl rfl rfl
theorem w23_29 {x i : Int32} {a : Nat} : W (pj lw) 23 29 L (.int x :: .int i :: .ref a :: S) k n H Q ↔ (inAw H a .int i = true ∧ W (pj lw) 23 30 L S k n (wr H a i.toNatClampNeg (.int x)) Q) := W_iastore (rfl : (pj lw).1 23 29 = some (.iastore, 1, 0))
theorem w23_30 {x : Nat} : W (pj lw) 23 30 (.val (.ref x) :: L) S k n H Q ↔ W (pj lw) 23 31 (.val (.ref x) :: L) (.ref x :: S) k n H Q := W_s (rfl : (pj lw).1 23 30 = some (.aload_n 0, 1, 0)) rfl rfl rfl
theorem w23_31 {a : Nat} : W (pj lw) 23 31 L (.ref a :: S) k n H Q ↔ (isO H a = true ∧ W (pj lw) 23 34 L (fld H a 30 :: S) k n H Q) := W_getf (rfl : (pj lw).1 23 31 = some (.getfield 35, 3, 30))
theorem w23_34 {x : Int32} {l0 : Slot} : W (pj lw) 23 34 (l0 :: .val (.int x) :: L) S k n H Q ↔ W (pj lw) 23 35 (l0 :: .val (.int x) :: L) (.int x :: S) k n H Q := W_s (rfl : (pj lw).1 23 34 = some (.iload_n 1, 1, 0)) rfl rfl rfl
theorem w23_35 : W (pj lw) 23 35 L S k n H Q ↔ W (pj lw) 23 36 L (.int 0 :: S) k n H Q := W_s (rfl : (pj lw).1 23 35 = some (.iconst 0, 1, 0)) rfl rfl rfl
theorem w23_36 {x i : Int32} {a : Nat} : W (pj lw) 23 36 L (.int x :: .int i :: .ref a :: S) k n H Q ↔ (((inAw H a .byte i = true ∧ okv .byte (.int x) = true) ∨ (inAw H a .boolean i = true ∧ okv .boolean (.int x) = true)) ∧ W (pj lw) 23 37 L S k n (wr H a i.toNatClampNeg (.int x)) Q) := W_bastore (rfl : (pj lw).1 23 36 = some (.bastore, 1, 0))
theorem w23_37 {x : Int32} {l0 : Slot} : W (pj lw) 23 37 (l0 :: .val (.int x) :: L) S k n H Q ↔ W (pj lw) 23 40 (l0 :: .val (.int (x + 1)) :: L) S k n H Q := W_s (rfl : (pj lw).1 23 37 = some (.iinc 1 1, 3, 0)) rfl rfl rfl
theorem w23_40 : W (pj lw) 23 40 L S k n H Q ↔ W (pj lw) 23 2 L S k n H Q := W_goto (rfl : (pj lw).1 23 40 = some (.goto (-38), 3, 0)) rfl
theorem w23_43 : W (pj lw) 23 43 L S k n H Q ↔ W (pj lw) 23 44 L (.int 0 :: S) k n H Q := W_s (rfl : (pj lw).1 23 43 = some (.iconst 0, 1, 0)) rfl rfl rfl
theorem w23_44i {y : Int32} {x : Int32} {l0 : Slot} : W (pj lw) 23 44 (l0 :: .val (.int y) :: L) (.int x :: S) k n H Q ↔ W (pj lw) 23 45 (l0 :: .val (.int x) :: L) S k n H Q := W_istn (rfl : (pj lw).1 23 44 = some (.istore_n 1, 1, 0)) rfl rfl
theorem w23_45 {x : Int32} {l0 : Slot} : W (pj lw) 23 45 (l0 :: .val (.int x) :: L) S k n H Q ↔ W (pj lw) 23 46 (l0 :: .val (.int x) :: L) (.int x :: S) k n H Q := W_s (rfl : (pj lw).1 23 45 = some (.iload_n 1, 1, 0)) rfl rfl rfl
theorem w23_46 {x : Nat} : W (pj lw) 23 46 (.val (.ref x) :: L) S k n H Q ↔ W (pj lw) 23 47 (.val (.ref x) :: L) (.ref x :: S) k n H Q := W_s (rfl : (pj lw).1 23 46 = some (.aload_n 0, 1, 0)) rfl rfl rfl
theorem w23_47 {a : Nat} : W (pj lw) 23 47 L (.ref a :: S) k n H Q ↔ (isO H a = true ∧ W (pj lw) 23 50 L (fld H a 1 :: S) k n H Q) := W_getf (rfl : (pj lw).1 23 47 = some (.getfield 68, 3, 1))
theorem w23_50 {x y : Int32} : W (pj lw) 23 50 L (.int y :: .int x :: S) k n H Q ↔ (if x < y then W (pj lw) 23 53 L S k n H Q else W (pj lw) 23 96 L S k n H Q) := W_icmp_ge (rfl : (pj lw).1 23 50 = some (.if_icmp .ge 46, 3, 0)) rfl
theorem w23_53 : W (pj lw) 23 53 L S k n H Q ↔ W (pj lw) 23 54 L (.int 0 :: S) k n H Q := W_s (rfl : (pj lw).1 23 53 = some (.iconst 0, 1, 0)) rfl rfl rfl
theorem w23_54i {y : Int32} {x : Int32} {l0 l1 : Slot} : W (pj lw) 23 54 (l0 :: l1 :: .val (.int y) :: L) (.int x :: S) k n H Q ↔ W (pj lw) 23 55 (l0 :: l1 :: .val (.int x) :: L) S k n H Q := W_istn (rfl : (pj lw).1 23 54 = some (.istore_n 2, 1, 0)) rfl rfl
theorem w23_54 {x : Int32} {l0 l1 : Slot} : W (pj lw) 23 54 (l0 :: l1 :: .unset :: L) (.int x :: S) k n H Q ↔ W (pj lw) 23 55 (l0 :: l1 :: .val (.int x) :: L) S k n H Q := W_istn (rfl : (pj lw).1 23 54 = some (.istore_n 2, 1, 0)) rfl rfl
theorem w23_55 {x : Int32} {l0 l1 : Slot} : W (pj lw) 23 55 (l0 :: l1 :: .val (.int x) :: L) S k n H Q ↔ W (pj lw) 23 56 (l0 :: l1 :: .val (.int x) :: L) (.int x :: S) k n H Q := W_s (rfl : (pj lw).1 23 55 = some (.iload_n 2, 1, 0)) rfl rfl rfl
theorem w23_56 {x : Nat} : W (pj lw) 23 56 (.val (.ref x) :: L) S k n H Q ↔ W (pj lw) 23 57 (.val (.ref x) :: L) (.ref x :: S) k n H Q := W_s (rfl : (pj lw).1 23 56 = some (.aload_n 0, 1, 0)) rfl rfl rfl
theorem w23_57 {a : Nat} : W (pj lw) 23 57 L (.ref a :: S) k n H Q ↔ (isO H a = true ∧ W (pj lw) 23 60 L (fld H a 0 :: S) k n H Q) := W_getf (rfl : (pj lw).1 23 57 = some (.getfield 64, 3, 0))
theorem w23_60 {x y : Int32} : W (pj lw) 23 60 L (.int y :: .int x :: S) k n H Q ↔ (if x < y then W (pj lw) 23 63 L S k n H Q else W (pj lw) 23 90 L S k n H Q) := W_icmp_ge (rfl : (pj lw).1 23 60 = some (.if_icmp .ge 30, 3, 0)) rfl
theorem w23_63 {x : Nat} : W (pj lw) 23 63 (.val (.ref x) :: L) S k n H Q ↔ W (pj lw) 23 64 (.val (.ref x) :: L) (.ref x :: S) k n H Q := W_s (rfl : (pj lw).1 23 63 = some (.aload_n 0, 1, 0)) rfl rfl rfl
theorem w23_64 {a : Nat} : W (pj lw) 23 64 L (.ref a :: S) k n H Q ↔ (isO H a = true ∧ W (pj lw) 23 67 L (fld H a 23 :: S) k n H Q) := W_getf (rfl : (pj lw).1 23 64 = some (.getfield 13, 3, 23))
theorem w23_67 {x : Int32} {l0 : Slot} : W (pj lw) 23 67 (l0 :: .val (.int x) :: L) S k n H Q ↔ W (pj lw) 23 68 (l0 :: .val (.int x) :: L) (.int x :: S) k n H Q := W_s (rfl : (pj lw).1 23 67 = some (.iload_n 1, 1, 0)) rfl rfl rfl
theorem w23_68 : W (pj lw) 23 68 L S k n H Q ↔ W (pj lw) 23 71 L (.int 128 :: S) k n H Q := W_s (rfl : (pj lw).1 23 68 = some (.sipush 128, 3, 0)) rfl rfl rfl
theorem w23_71 {x y : Int32} : W (pj lw) 23 71 L (.int y :: .int x :: S) k n H Q ↔ W (pj lw) 23 72 L (.int (x * y) :: S) k n H Q := W_s (rfl : (pj lw).1 23 71 = some (.imul, 1, 0)) rfl rfl rfl
theorem w23_72 {x : Int32} {l0 l1 : Slot} : W (pj lw) 23 72 (l0 :: l1 :: .val (.int x) :: L) S k n H Q ↔ W (pj lw) 23 73 (l0 :: l1 :: .val (.int x) :: L) (.int x :: S) k n H Q := W_s (rfl : (pj lw).1 23 72 = some (.iload_n 2, 1, 0)) rfl rfl rfl
theorem w23_73 {x y : Int32} : W (pj lw) 23 73 L (.int y :: .int x :: S) k n H Q ↔ W (pj lw) 23 74 L (.int (x + y) :: S) k n H Q := W_s (rfl : (pj lw).1 23 73 = some (.iadd, 1, 0)) rfl rfl rfl
theorem w23_74 {i : Int32} {a : Nat} : W (pj lw) 23 74 L (.int i :: .ref a :: S) k n H Q ↔ ((inA H a .byte i = true ∨ inA H a .boolean i = true) ∧ W (pj lw) 23 75 L (elt H a i :: S) k n H Q) := W_baload (rfl : (pj lw).1 23 74 = some (.baload, 1, 0))
theorem w23_75 {x : Int32} : W (pj lw) 23 75 L (.int x :: S) k n H Q ↔ (if x = 0 then W (pj lw) 23 84 L S k n H Q else W (pj lw) 23 78 L S k n H Q) := W_if_eq (rfl : (pj lw).1 23 75 = some (.ifCond .eq 9, 3, 0)) rfl
theorem w23_78 {x : Nat} : W (pj lw) 23 78 (.val (.ref x) :: L) S k n H Q ↔ W (pj lw) 23 79 (.val (.ref x) :: L) (.ref x :: S) k n H Q := W_s (rfl : (pj lw).1 23 78 = some (.aload_n 0, 1, 0)) rfl rfl rfl
theorem w23_79 {x : Int32} {l0 : Slot} : W (pj lw) 23 79 (l0 :: .val (.int x) :: L) S k n H Q ↔ W (pj lw) 23 80 (l0 :: .val (.int x) :: L) (.int x :: S) k n H Q := W_s (rfl : (pj lw).1 23 79 = some (.iload_n 1, 1, 0)) rfl rfl rfl
theorem w23_80 {x : Int32} {l0 l1 : Slot} : W (pj lw) 23 80 (l0 :: l1 :: .val (.int x) :: L) S k n H Q ↔ W (pj lw) 23 81 (l0 :: l1 :: .val (.int x) :: L) (.int x :: S) k n H Q := W_s (rfl : (pj lw).1 23 80 = some (.iload_n 2, 1, 0)) rfl rfl rfl
theorem w23_81 {a : Nat} {x0 : Int32} {x1 : Int32} : W (pj lw) 23 81 L (.int x1 :: .int x0 :: .ref a :: S) k n H Q ↔ ((isO H a = true ∧ cs S + (8 + 11) + 31 ≤ 50) ∧ Cl (pj lw) 24 [.ref a, .int x0, .int x1] H (fun v H => W (pj lw) 23 84 L (v.toList ++ S) k n H Q)) := W_inst (as := [.int x0, .int x1]) (rfl : (pj lw).1 23 81 = some (.invokevirtual 185, 3, 24)) rfl rfl rfl (Nat.le_of_ble_eq_true rfl) (Nat.le_of_ble_eq_true rfl) ⟨rfl, rfl⟩
theorem w23_84 {x : Int32} {l0 l1 : Slot} : W (pj lw) 23 84 (l0 :: l1 :: .val (.int x) :: L) S k n H Q ↔ W (pj lw) 23 87 (l0 :: l1 :: .val (.int (x + 1)) :: L) S k n H Q := W_s (rfl : (pj lw).1 23 84 = some (.iinc 2 1, 3, 0)) rfl rfl rfl
theorem w23_87 : W (pj lw) 23 87 L S k n H Q ↔ W (pj lw) 23 55 L S k n H Q := W_goto (rfl : (pj lw).1 23 87 = some (.goto (-32), 3, 0)) rfl
theorem w23_90 {x : Int32} {l0 : Slot} : W (pj lw) 23 90 (l0 :: .val (.int x) :: L) S k n H Q ↔ W (pj lw) 23 93 (l0 :: .val (.int (x + 1)) :: L) S k n H Q := W_s (rfl : (pj lw).1 23 90 = some (.iinc 1 1, 3, 0)) rfl rfl rfl
theorem w23_93 : W (pj lw) 23 93 L S k n H Q ↔ W (pj lw) 23 45 L S k n H Q := W_goto (rfl : (pj lw).1 23 93 = some (.goto (-48), 3, 0)) rfl
theorem w23_96 : W (pj lw) 23 96 L S k n H Q ↔ W (pj lw) 23 97 L (.int 0 :: S) k n H Q := W_s (rfl : (pj lw).1 23 96 = some (.iconst 0, 1, 0)) rfl rfl rfl
theorem w23_97i {y : Int32} {x : Int32} {l0 : Slot} : W (pj lw) 23 97 (l0 :: .val (.int y) :: L) (.int x :: S) k n H Q ↔ W (pj lw) 23 98 (l0 :: .val (.int x) :: L) S k n H Q := W_istn (rfl : (pj lw).1 23 97 = some (.istore_n 1, 1, 0)) rfl rfl
theorem w23_98 {x : Int32} {l0 : Slot} : W (pj lw) 23 98 (l0 :: .val (.int x) :: L) S k n H Q ↔ W (pj lw) 23 99 (l0 :: .val (.int x) :: L) (.int x :: S) k n H Q := W_s (rfl : (pj lw).1 23 98 = some (.iload_n 1, 1, 0)) rfl rfl rfl
theorem w23_99 : W (pj lw) 23 99 L S k n H Q ↔ W (pj lw) 23 102 L (.int 384 :: S) k n H Q := W_s (rfl : (pj lw).1 23 99 = some (.sipush 384, 3, 0)) rfl rfl rfl
theorem w23_102 {x y : Int32} : W (pj lw) 23 102 L (.int y :: .int x :: S) k n H Q ↔ (if x < y then W (pj lw) 23 105 L S k n H Q else W (pj lw) 23 159 L S k n H Q) := W_icmp_ge (rfl : (pj lw).1 23 102 = some (.if_icmp .ge 57, 3, 0)) rfl
theorem w23_105 {x : Nat} : W (pj lw) 23 105 (.val (.ref x) :: L) S k n H Q ↔ W (pj lw) 23 106 (.val (.ref x) :: L) (.ref x :: S) k n H Q := W_s (rfl : (pj lw).1 23 105 = some (.aload_n 0, 1, 0)) rfl rfl rfl
theorem w23_106 {a : Nat} : W (pj lw) 23 106 L (.ref a :: S) k n H Q ↔ (isO H a = true ∧ W (pj lw) 23 109 L (fld H a 23 :: S) k n H Q) := W_getf (rfl : (pj lw).1 23 106 = some (.getfield 13, 3, 23))
theorem w23_109 {x : Int32} {l0 : Slot} : W (pj lw) 23 109 (l0 :: .val (.int x) :: L) S k n H Q ↔ W (pj lw) 23 110 (l0 :: .val (.int x) :: L) (.int x :: S) k n H Q := W_s (rfl : (pj lw).1 23 109 = some (.iload_n 1, 1, 0)) rfl rfl rfl
theorem w23_110 {x : Nat} : W (pj lw) 23 110 (.val (.ref x) :: L) S k n H Q ↔ W (pj lw) 23 111 (.val (.ref x) :: L) (.ref x :: S) k n H Q := W_s (rfl : (pj lw).1 23 110 = some (.aload_n 0, 1, 0)) rfl rfl rfl
theorem w23_111 {a : Nat} : W (pj lw) 23 111 L (.ref a :: S) k n H Q ↔ (isO H a = true ∧ W (pj lw) 23 114 L (fld H a 27 :: S) k n H Q) := W_getf (rfl : (pj lw).1 23 111 = some (.getfield 26, 3, 27))
theorem w23_114 {x : Int32} {l0 : Slot} : W (pj lw) 23 114 (l0 :: .val (.int x) :: L) S k n H Q ↔ W (pj lw) 23 115 (l0 :: .val (.int x) :: L) (.int x :: S) k n H Q := W_s (rfl : (pj lw).1 23 114 = some (.iload_n 1, 1, 0)) rfl rfl rfl
theorem w23_115 {i : Int32} {a : Nat} : W (pj lw) 23 115 L (.int i :: .ref a :: S) k n H Q ↔ ((inA H a .byte i = true ∨ inA H a .boolean i = true) ∧ W (pj lw) 23 116 L (elt H a i :: S) k n H Q) := W_baload (rfl : (pj lw).1 23 115 = some (.baload, 1, 0))
theorem w23_116 {x i : Int32} {a : Nat} : W (pj lw) 23 116 L (.int x :: .int i :: .ref a :: S) k n H Q ↔ (((inAw H a .byte i = true ∧ okv .byte (.int x) = true) ∨ (inAw H a .boolean i = true ∧ okv .boolean (.int x) = true)) ∧ W (pj lw) 23 117 L S k n (wr H a i.toNatClampNeg (.int x)) Q) := W_bastore (rfl : (pj lw).1 23 116 = some (.bastore, 1, 0))
theorem w23_117 {x : Nat} : W (pj lw) 23 117 (.val (.ref x) :: L) S k n H Q ↔ W (pj lw) 23 118 (.val (.ref x) :: L) (.ref x :: S) k n H Q := W_s (rfl : (pj lw).1 23 117 = some (.aload_n 0, 1, 0)) rfl rfl rfl
theorem w23_118 {a : Nat} : W (pj lw) 23 118 L (.ref a :: S) k n H Q ↔ (isO H a = true ∧ W (pj lw) 23 121 L (fld H a 24 :: S) k n H Q) := W_getf (rfl : (pj lw).1 23 118 = some (.getfield 16, 3, 24))
theorem w23_121 {x : Int32} {l0 : Slot} : W (pj lw) 23 121 (l0 :: .val (.int x) :: L) S k n H Q ↔ W (pj lw) 23 122 (l0 :: .val (.int x) :: L) (.int x :: S) k n H Q := W_s (rfl : (pj lw).1 23 121 = some (.iload_n 1, 1, 0)) rfl rfl rfl
theorem w23_122 {x : Nat} : W (pj lw) 23 122 (.val (.ref x) :: L) S k n H Q ↔ W (pj lw) 23 123 (.val (.ref x) :: L) (.ref x :: S) k n H Q := W_s (rfl : (pj lw).1 23 122 = some (.aload_n 0, 1, 0)) rfl rfl rfl
theorem w23_123 {a : Nat} : W (pj lw) 23 123 L (.ref a :: S) k n H Q ↔ (isO H a = true ∧ W (pj lw) 23 126 L (fld H a 28 :: S) k n H Q) := W_getf (rfl : (pj lw).1 23 123 = some (.getfield 29, 3, 28))
theorem w23_126 {x : Int32} {l0 : Slot} : W (pj lw) 23 126 (l0 :: .val (.int x) :: L) S k n H Q ↔ W (pj lw) 23 127 (l0 :: .val (.int x) :: L) (.int x :: S) k n H Q := W_s (rfl : (pj lw).1 23 126 = some (.iload_n 1, 1, 0)) rfl rfl rfl
theorem w23_127 {i : Int32} {a : Nat} : W (pj lw) 23 127 L (.int i :: .ref a :: S) k n H Q ↔ (inA H a .int i = true ∧ W (pj lw) 23 128 L (elt H a i :: S) k n H Q) := W_iaload (rfl : (pj lw).1 23 127 = some (.iaload, 1, 0))
theorem w23_128 {x i : Int32} {a : Nat} : W (pj lw) 23 128 L (.int x :: .int i :: .ref a :: S) k n H Q ↔ (inAw H a .int i = true ∧ W (pj lw) 23 129 L S k n (wr H a i.toNatClampNeg (.int x)) Q) := W_iastore (rfl : (pj lw).1 23 128 = some (.iastore, 1, 0))
theorem w23_129 {x : Nat} : W (pj lw) 23 129 (.val (.ref x) :: L) S k n H Q ↔ W (pj lw) 23 130 (.val (.ref x) :: L) (.ref x :: S) k n H Q := W_s (rfl : (pj lw).1 23 129 = some (.aload_n 0, 1, 0)) rfl rfl rfl
theorem w23_130 {a : Nat} : W (pj lw) 23 130 L (.ref a :: S) k n H Q ↔ (isO H a = true ∧ W (pj lw) 23 133 L (fld H a 25 :: S) k n H Q) := W_getf (rfl : (pj lw).1 23 130 = some (.getfield 20, 3, 25))
theorem w23_133 {x : Int32} {l0 : Slot} : W (pj lw) 23 133 (l0 :: .val (.int x) :: L) S k n H Q ↔ W (pj lw) 23 134 (l0 :: .val (.int x) :: L) (.int x :: S) k n H Q := W_s (rfl : (pj lw).1 23 133 = some (.iload_n 1, 1, 0)) rfl rfl rfl
theorem w23_134 {x : Nat} : W (pj lw) 23 134 (.val (.ref x) :: L) S k n H Q ↔ W (pj lw) 23 135 (.val (.ref x) :: L) (.ref x :: S) k n H Q := W_s (rfl : (pj lw).1 23 134 = some (.aload_n 0, 1, 0)) rfl rfl rfl
theorem w23_135 {a : Nat} : W (pj lw) 23 135 L (.ref a :: S) k n H Q ↔ (isO H a = true ∧ W (pj lw) 23 138 L (fld H a 29 :: S) k n H Q) := W_getf (rfl : (pj lw).1 23 135 = some (.getfield 32, 3, 29))
theorem w23_138 {x : Int32} {l0 : Slot} : W (pj lw) 23 138 (l0 :: .val (.int x) :: L) S k n H Q ↔ W (pj lw) 23 139 (l0 :: .val (.int x) :: L) (.int x :: S) k n H Q := W_s (rfl : (pj lw).1 23 138 = some (.iload_n 1, 1, 0)) rfl rfl rfl
theorem w23_139 {i : Int32} {a : Nat} : W (pj lw) 23 139 L (.int i :: .ref a :: S) k n H Q ↔ (inA H a .int i = true ∧ W (pj lw) 23 140 L (elt H a i :: S) k n H Q) := W_iaload (rfl : (pj lw).1 23 139 = some (.iaload, 1, 0))
theorem w23_140 {x i : Int32} {a : Nat} : W (pj lw) 23 140 L (.int x :: .int i :: .ref a :: S) k n H Q ↔ (inAw H a .int i = true ∧ W (pj lw) 23 141 L S k n (wr H a i.toNatClampNeg (.int x)) Q) := W_iastore (rfl : (pj lw).1 23 140 = some (.iastore, 1, 0))
theorem w23_141 {x : Nat} : W (pj lw) 23 141 (.val (.ref x) :: L) S k n H Q ↔ W (pj lw) 23 142 (.val (.ref x) :: L) (.ref x :: S) k n H Q := W_s (rfl : (pj lw).1 23 141 = some (.aload_n 0, 1, 0)) rfl rfl rfl
theorem w23_142 {a : Nat} : W (pj lw) 23 142 L (.ref a :: S) k n H Q ↔ (isO H a = true ∧ W (pj lw) 23 145 L (fld H a 26 :: S) k n H Q) := W_getf (rfl : (pj lw).1 23 142 = some (.getfield 23, 3, 26))
theorem w23_145 {x : Int32} {l0 : Slot} : W (pj lw) 23 145 (l0 :: .val (.int x) :: L) S k n H Q ↔ W (pj lw) 23 146 (l0 :: .val (.int x) :: L) (.int x :: S) k n H Q := W_s (rfl : (pj lw).1 23 145 = some (.iload_n 1, 1, 0)) rfl rfl rfl
theorem w23_146 {x : Nat} : W (pj lw) 23 146 (.val (.ref x) :: L) S k n H Q ↔ W (pj lw) 23 147 (.val (.ref x) :: L) (.ref x :: S) k n H Q := W_s (rfl : (pj lw).1 23 146 = some (.aload_n 0, 1, 0)) rfl rfl rfl
theorem w23_147 {a : Nat} : W (pj lw) 23 147 L (.ref a :: S) k n H Q ↔ (isO H a = true ∧ W (pj lw) 23 150 L (fld H a 30 :: S) k n H Q) := W_getf (rfl : (pj lw).1 23 147 = some (.getfield 35, 3, 30))
theorem w23_150 {x : Int32} {l0 : Slot} : W (pj lw) 23 150 (l0 :: .val (.int x) :: L) S k n H Q ↔ W (pj lw) 23 151 (l0 :: .val (.int x) :: L) (.int x :: S) k n H Q := W_s (rfl : (pj lw).1 23 150 = some (.iload_n 1, 1, 0)) rfl rfl rfl
theorem w23_151 {i : Int32} {a : Nat} : W (pj lw) 23 151 L (.int i :: .ref a :: S) k n H Q ↔ ((inA H a .byte i = true ∨ inA H a .boolean i = true) ∧ W (pj lw) 23 152 L (elt H a i :: S) k n H Q) := W_baload (rfl : (pj lw).1 23 151 = some (.baload, 1, 0))
theorem w23_152 {x i : Int32} {a : Nat} : W (pj lw) 23 152 L (.int x :: .int i :: .ref a :: S) k n H Q ↔ (((inAw H a .byte i = true ∧ okv .byte (.int x) = true) ∨ (inAw H a .boolean i = true ∧ okv .boolean (.int x) = true)) ∧ W (pj lw) 23 153 L S k n (wr H a i.toNatClampNeg (.int x)) Q) := W_bastore (rfl : (pj lw).1 23 152 = some (.bastore, 1, 0))
theorem w23_153 {x : Int32} {l0 : Slot} : W (pj lw) 23 153 (l0 :: .val (.int x) :: L) S k n H Q ↔ W (pj lw) 23 156 (l0 :: .val (.int (x + 1)) :: L) S k n H Q := W_s (rfl : (pj lw).1 23 153 = some (.iinc 1 1, 3, 0)) rfl rfl rfl
theorem w23_156 : W (pj lw) 23 156 L S k n H Q ↔ W (pj lw) 23 98 L S k n H Q := W_goto (rfl : (pj lw).1 23 156 = some (.goto (-58), 3, 0)) rfl
theorem w23_159 : W (pj lw) 23 159 L [] k n H Q ↔ Q none H := W_r (rfl : (pj lw).1 23 159 = some (.return_, 1, 0)) rfl
theorem c24 {x0 : Nat} {x1 : Int32} {x2 : Int32} : Cl (pj lw) 24 [.ref x0, .int x1, .int x2] H Q ↔ W (pj lw) 24 0 [.val (.ref x0), .val (.int x1), .val (.int x2), .unset, .unset, .unset, .unset, .unset] [] 0 0 H Q := cl_unf rfl
theorem w24_0 {x : Int32} {l0 : Slot} : W (pj lw) 24 0 (l0 :: .val (.int x) :: L) S k n H Q ↔ W (pj lw) 24 1 (l0 :: .val (.int x) :: L) (.int x :: S) k n H Q := W_s (rfl : (pj lw).1 24 0 = some (.iload_n 1, 1, 0)) rfl rfl rfl
theorem w24_1 : W (pj lw) 24 1 L S k n H Q ↔ W (pj lw) 24 4 L (.int 128 :: S) k n H Q := W_s (rfl : (pj lw).1 24 1 = some (.sipush 128, 3, 0)) rfl rfl rfl
theorem w24_4 {x y : Int32} : W (pj lw) 24 4 L (.int y :: .int x :: S) k n H Q ↔ W (pj lw) 24 5 L (.int (x * y) :: S) k n H Q := W_s (rfl : (pj lw).1 24 4 = some (.imul, 1, 0)) rfl rfl rfl
theorem w24_5 {x : Int32} {l0 l1 : Slot} : W (pj lw) 24 5 (l0 :: l1 :: .val (.int x) :: L) S k n H Q ↔ W (pj lw) 24 6 (l0 :: l1 :: .val (.int x) :: L) (.int x :: S) k n H Q := W_s (rfl : (pj lw).1 24 5 = some (.iload_n 2, 1, 0)) rfl rfl rfl
theorem w24_6 {x y : Int32} : W (pj lw) 24 6 L (.int y :: .int x :: S) k n H Q ↔ W (pj lw) 24 7 L (.int (x + y) :: S) k n H Q := W_s (rfl : (pj lw).1 24 6 = some (.iadd, 1, 0)) rfl rfl rfl
theorem w24_7 {x : Int32} {l0 l1 l2 : Slot} : W (pj lw) 24 7 (l0 :: l1 :: l2 :: .unset :: L) (.int x :: S) k n H Q ↔ W (pj lw) 24 8 (l0 :: l1 :: l2 :: .val (.int x) :: L) S k n H Q := W_istn (rfl : (pj lw).1 24 7 = some (.istore_n 3, 1, 0)) rfl rfl
theorem w24_8 {x : Nat} : W (pj lw) 24 8 (.val (.ref x) :: L) S k n H Q ↔ W (pj lw) 24 9 (.val (.ref x) :: L) (.ref x :: S) k n H Q := W_s (rfl : (pj lw).1 24 8 = some (.aload_n 0, 1, 0)) rfl rfl rfl
theorem w24_9 {a : Nat} : W (pj lw) 24 9 L (.ref a :: S) k n H Q ↔ (isO H a = true ∧ W (pj lw) 24 12 L (fld H a 32 :: S) k n H Q) := W_getf (rfl : (pj lw).1 24 9 = some (.getfield 41, 3, 32))
theorem w24_12 {x : Int32} {l0 l1 l2 : Slot} : W (pj lw) 24 12 (l0 :: l1 :: l2 :: .val (.int x) :: L) S k n H Q ↔ W (pj lw) 24 13 (l0 :: l1 :: l2 :: .val (.int x) :: L) (.int x :: S) k n H Q := W_s (rfl : (pj lw).1 24 12 = some (.iload_n 3, 1, 0)) rfl rfl rfl
theorem w24_13 {i : Int32} {a : Nat} : W (pj lw) 24 13 L (.int i :: .ref a :: S) k n H Q ↔ (inA H a .int i = true ∧ W (pj lw) 24 14 L (elt H a i :: S) k n H Q) := W_iaload (rfl : (pj lw).1 24 13 = some (.iaload, 1, 0))
theorem w24_14 {x : Int32} {l0 l1 l2 l3 : Slot} : W (pj lw) 24 14 (l0 :: l1 :: l2 :: l3 :: .unset :: L) (.int x :: S) k n H Q ↔ W (pj lw) 24 16 (l0 :: l1 :: l2 :: l3 :: .val (.int x) :: L) S k n H Q := W_ist (rfl : (pj lw).1 24 14 = some (.istore 4, 2, 0)) rfl rfl
theorem w24_16 {x : Nat} : W (pj lw) 24 16 (.val (.ref x) :: L) S k n H Q ↔ W (pj lw) 24 17 (.val (.ref x) :: L) (.ref x :: S) k n H Q := W_s (rfl : (pj lw).1 24 16 = some (.aload_n 0, 1, 0)) rfl rfl rfl
theorem w24_17 {x : Nat} : W (pj lw) 24 17 L (.ref x :: S) k n H Q ↔ W (pj lw) 24 18 L (.ref x :: .ref x :: S) k n H Q := W_s (rfl : (pj lw).1 24 17 = some (.dup, 1, 0)) rfl rfl rfl
theorem w24_18 {a : Nat} : W (pj lw) 24 18 L (.ref a :: S) k n H Q ↔ (isO H a = true ∧ W (pj lw) 24 21 L (fld H a 16 :: S) k n H Q) := W_getf (rfl : (pj lw).1 24 18 = some (.getfield 188, 3, 16))
theorem w24_21 {x : Int32} {l0 l1 l2 l3 : Slot} : W (pj lw) 24 21 (l0 :: l1 :: l2 :: l3 :: .val (.int x) :: L) S k n H Q ↔ W (pj lw) 24 23 (l0 :: l1 :: l2 :: l3 :: .val (.int x) :: L) (.int x :: S) k n H Q := W_s (rfl : (pj lw).1 24 21 = some (.iload 4, 2, 0)) rfl rfl rfl
theorem w24_23 {x : Int32} : W (pj lw) 24 23 L (.int x :: S) k n H Q ↔ W (pj lw) 24 24 L (.long x.toInt64 :: S) k n H Q := W_s (rfl : (pj lw).1 24 23 = some (.i2l, 1, 0)) rfl rfl rfl
theorem w24_24 {x y : Int64} : W (pj lw) 24 24 L (.long y :: .long x :: S) k n H Q ↔ W (pj lw) 24 25 L (.long (x + y) :: S) k n H Q := W_s (rfl : (pj lw).1 24 24 = some (.ladd, 1, 0)) rfl rfl rfl
theorem w24_25 {a : Nat} {v : Value} : W (pj lw) 24 25 L (v :: .ref a :: S) k n H Q ↔ ((isOw H a = true ∧ okv (.long) v = true) ∧ W (pj lw) 24 28 L S k n (wr H a 16 v) Q) := W_putf (rfl : (pj lw).1 24 25 = some (.putfield 188, 3, 16))
theorem w24_28 {x : Nat} : W (pj lw) 24 28 (.val (.ref x) :: L) S k n H Q ↔ W (pj lw) 24 29 (.val (.ref x) :: L) (.ref x :: S) k n H Q := W_s (rfl : (pj lw).1 24 28 = some (.aload_n 0, 1, 0)) rfl rfl rfl
theorem w24_29 {x : Int32} {l0 : Slot} : W (pj lw) 24 29 (l0 :: .val (.int x) :: L) S k n H Q ↔ W (pj lw) 24 30 (l0 :: .val (.int x) :: L) (.int x :: S) k n H Q := W_s (rfl : (pj lw).1 24 29 = some (.iload_n 1, 1, 0)) rfl rfl rfl
theorem w24_30 {x : Int32} {l0 l1 : Slot} : W (pj lw) 24 30 (l0 :: l1 :: .val (.int x) :: L) S k n H Q ↔ W (pj lw) 24 31 (l0 :: l1 :: .val (.int x) :: L) (.int x :: S) k n H Q := W_s (rfl : (pj lw).1 24 30 = some (.iload_n 2, 1, 0)) rfl rfl rfl
theorem w24_31 {x : Int32} {l0 l1 l2 l3 : Slot} : W (pj lw) 24 31 (l0 :: l1 :: l2 :: l3 :: .val (.int x) :: L) S k n H Q ↔ W (pj lw) 24 33 (l0 :: l1 :: l2 :: l3 :: .val (.int x) :: L) (.int x :: S) k n H Q := W_s (rfl : (pj lw).1 24 31 = some (.iload 4, 2, 0)) rfl rfl rfl
theorem w24_33 {a : Nat} {x0 : Int32} {x1 : Int32} {x2 : Int32} : W (pj lw) 24 33 L (.int x2 :: .int x1 :: .int x0 :: .ref a :: S) k n H Q ↔ ((isO H a = true ∧ cs S + (5 + 11) + 14 ≤ 31) ∧ Cl (pj lw) 25 [.ref a, .int x0, .int x1, .int x2] H (fun v H => W (pj lw) 24 36 L (v.toList ++ S) k n H Q)) := W_inst (as := [.int x0, .int x1, .int x2]) (rfl : (pj lw).1 24 33 = some (.invokevirtual 191, 3, 25)) rfl rfl rfl (Nat.le_of_ble_eq_true rfl) (Nat.le_of_ble_eq_true rfl) ⟨rfl, rfl⟩
theorem w24_36 {x : Int32} {l0 l1 l2 l3 l4 : Slot} : W (pj lw) 24 36 (l0 :: l1 :: l2 :: l3 :: l4 :: .unset :: L) (.int x :: S) k n H Q ↔ W (pj lw) 24 38 (l0 :: l1 :: l2 :: l3 :: l4 :: .val (.int x) :: L) S k n H Q := W_ist (rfl : (pj lw).1 24 36 = some (.istore 5, 2, 0)) rfl rfl
theorem w24_38 {x : Int32} {l0 l1 l2 l3 l4 : Slot} : W (pj lw) 24 38 (l0 :: l1 :: l2 :: l3 :: l4 :: .val (.int x) :: L) S k n H Q ↔ W (pj lw) 24 40 (l0 :: l1 :: l2 :: l3 :: l4 :: .val (.int x) :: L) (.int x :: S) k n H Q := W_s (rfl : (pj lw).1 24 38 = some (.iload 5, 2, 0)) rfl rfl rfl
theorem w24_40 {x : Int32} : W (pj lw) 24 40 L (.int x :: S) k n H Q ↔ (if 0 < x then W (pj lw) 24 43 L S k n H Q else W (pj lw) 24 71 L S k n H Q) := W_if_le (rfl : (pj lw).1 24 40 = some (.ifCond .le 31, 3, 0)) rfl
theorem w24_43 {x : Nat} : W (pj lw) 24 43 (.val (.ref x) :: L) S k n H Q ↔ W (pj lw) 24 44 (.val (.ref x) :: L) (.ref x :: S) k n H Q := W_s (rfl : (pj lw).1 24 43 = some (.aload_n 0, 1, 0)) rfl rfl rfl
theorem w24_44 {x : Int32} {l0 l1 : Slot} : W (pj lw) 24 44 (l0 :: l1 :: .val (.int x) :: L) S k n H Q ↔ W (pj lw) 24 45 (l0 :: l1 :: .val (.int x) :: L) (.int x :: S) k n H Q := W_s (rfl : (pj lw).1 24 44 = some (.iload_n 2, 1, 0)) rfl rfl rfl
theorem w24_45 {x : Int32} {l0 l1 l2 l3 l4 : Slot} : W (pj lw) 24 45 (l0 :: l1 :: l2 :: l3 :: l4 :: .val (.int x) :: L) S k n H Q ↔ W (pj lw) 24 47 (l0 :: l1 :: l2 :: l3 :: l4 :: .val (.int x) :: L) (.int x :: S) k n H Q := W_s (rfl : (pj lw).1 24 45 = some (.iload 5, 2, 0)) rfl rfl rfl
theorem w24_47 {a : Nat} {x0 : Int32} {x1 : Int32} : W (pj lw) 24 47 L (.int x1 :: .int x0 :: .ref a :: S) k n H Q ↔ ((isO H a = true ∧ cs S + (6 + 11) + 14 ≤ 31) ∧ Cl (pj lw) 26 [.ref a, .int x0, .int x1] H (fun v H => W (pj lw) 24 50 L (v.toList ++ S) k n H Q)) := W_inst (as := [.int x0, .int x1]) (rfl : (pj lw).1 24 47 = some (.invokevirtual 194, 3, 26)) rfl rfl rfl (Nat.le_of_ble_eq_true rfl) (Nat.le_of_ble_eq_true rfl) ⟨rfl, rfl⟩
theorem w24_50 {x : Nat} : W (pj lw) 24 50 (.val (.ref x) :: L) S k n H Q ↔ W (pj lw) 24 51 (.val (.ref x) :: L) (.ref x :: S) k n H Q := W_s (rfl : (pj lw).1 24 50 = some (.aload_n 0, 1, 0)) rfl rfl rfl
theorem w24_51 {x : Nat} : W (pj lw) 24 51 L (.ref x :: S) k n H Q ↔ W (pj lw) 24 52 L (.ref x :: .ref x :: S) k n H Q := W_s (rfl : (pj lw).1 24 51 = some (.dup, 1, 0)) rfl rfl rfl
theorem w24_52 {a : Nat} : W (pj lw) 24 52 L (.ref a :: S) k n H Q ↔ (isO H a = true ∧ W (pj lw) 24 55 L (fld H a 14 :: S) k n H Q) := W_getf (rfl : (pj lw).1 24 52 = some (.getfield 197, 3, 14))
theorem w24_55 : W (pj lw) 24 55 L S k n H Q ↔ W (pj lw) 24 56 L (.long 1 :: S) k n H Q := W_s (rfl : (pj lw).1 24 55 = some (.lconst 1, 1, 0)) rfl rfl rfl
theorem w24_56 {x y : Int64} : W (pj lw) 24 56 L (.long y :: .long x :: S) k n H Q ↔ W (pj lw) 24 57 L (.long (x + y) :: S) k n H Q := W_s (rfl : (pj lw).1 24 56 = some (.ladd, 1, 0)) rfl rfl rfl
theorem w24_57 {a : Nat} {v : Value} : W (pj lw) 24 57 L (v :: .ref a :: S) k n H Q ↔ ((isOw H a = true ∧ okv (.long) v = true) ∧ W (pj lw) 24 60 L S k n (wr H a 14 v) Q) := W_putf (rfl : (pj lw).1 24 57 = some (.putfield 197, 3, 14))
theorem w24_60 {x : Nat} : W (pj lw) 24 60 (.val (.ref x) :: L) S k n H Q ↔ W (pj lw) 24 61 (.val (.ref x) :: L) (.ref x :: S) k n H Q := W_s (rfl : (pj lw).1 24 60 = some (.aload_n 0, 1, 0)) rfl rfl rfl
theorem w24_61 {x : Nat} : W (pj lw) 24 61 L (.ref x :: S) k n H Q ↔ W (pj lw) 24 62 L (.ref x :: .ref x :: S) k n H Q := W_s (rfl : (pj lw).1 24 61 = some (.dup, 1, 0)) rfl rfl rfl
theorem w24_62 {a : Nat} : W (pj lw) 24 62 L (.ref a :: S) k n H Q ↔ (isO H a = true ∧ W (pj lw) 24 65 L (fld H a 12 :: S) k n H Q) := W_getf (rfl : (pj lw).1 24 62 = some (.getfield 112, 3, 12))
theorem w24_65 : W (pj lw) 24 65 L S k n H Q ↔ W (pj lw) 24 66 L (.int 1 :: S) k n H Q := W_s (rfl : (pj lw).1 24 65 = some (.iconst 1, 1, 0)) rfl rfl rfl
theorem w24_66 {x y : Int32} : W (pj lw) 24 66 L (.int y :: .int x :: S) k n H Q ↔ W (pj lw) 24 67 L (.int (x - y) :: S) k n H Q := W_s (rfl : (pj lw).1 24 66 = some (.isub, 1, 0)) rfl rfl rfl
theorem w24_67 {a : Nat} {v : Value} : W (pj lw) 24 67 L (v :: .ref a :: S) k n H Q ↔ ((isOw H a = true ∧ okv (.int) v = true) ∧ W (pj lw) 24 70 L S k n (wr H a 12 v) Q) := W_putf (rfl : (pj lw).1 24 67 = some (.putfield 112, 3, 12))
theorem w24_70 : W (pj lw) 24 70 L [] k n H Q ↔ Q none H := W_r (rfl : (pj lw).1 24 70 = some (.return_, 1, 0)) rfl
theorem w24_71 {x : Nat} : W (pj lw) 24 71 (.val (.ref x) :: L) S k n H Q ↔ W (pj lw) 24 72 (.val (.ref x) :: L) (.ref x :: S) k n H Q := W_s (rfl : (pj lw).1 24 71 = some (.aload_n 0, 1, 0)) rfl rfl rfl
theorem w24_72 {x : Int32} {l0 l1 : Slot} : W (pj lw) 24 72 (l0 :: l1 :: .val (.int x) :: L) S k n H Q ↔ W (pj lw) 24 73 (l0 :: l1 :: .val (.int x) :: L) (.int x :: S) k n H Q := W_s (rfl : (pj lw).1 24 72 = some (.iload_n 2, 1, 0)) rfl rfl rfl
theorem w24_73 {x : Int32} {l0 l1 l2 l3 : Slot} : W (pj lw) 24 73 (l0 :: l1 :: l2 :: l3 :: .val (.int x) :: L) S k n H Q ↔ W (pj lw) 24 75 (l0 :: l1 :: l2 :: l3 :: .val (.int x) :: L) (.int x :: S) k n H Q := W_s (rfl : (pj lw).1 24 73 = some (.iload 4, 2, 0)) rfl rfl rfl
theorem w24_75 {a : Nat} {x0 : Int32} {x1 : Int32} : W (pj lw) 24 75 L (.int x1 :: .int x0 :: .ref a :: S) k n H Q ↔ ((isO H a = true ∧ cs S + (6 + 11) + 14 ≤ 31) ∧ Cl (pj lw) 26 [.ref a, .int x0, .int x1] H (fun v H => W (pj lw) 24 78 L (v.toList ++ S) k n H Q)) := W_inst (as := [.int x0, .int x1]) (rfl : (pj lw).1 24 75 = some (.invokevirtual 194, 3, 26)) rfl rfl rfl (Nat.le_of_ble_eq_true rfl) (Nat.le_of_ble_eq_true rfl) ⟨rfl, rfl⟩
theorem w24_78 {x : Nat} : W (pj lw) 24 78 (.val (.ref x) :: L) S k n H Q ↔ W (pj lw) 24 79 (.val (.ref x) :: L) (.ref x :: S) k n H Q := W_s (rfl : (pj lw).1 24 78 = some (.aload_n 0, 1, 0)) rfl rfl rfl
theorem w24_79 {x : Int32} {l0 l1 : Slot} : W (pj lw) 24 79 (l0 :: l1 :: .val (.int x) :: L) S k n H Q ↔ W (pj lw) 24 80 (l0 :: l1 :: .val (.int x) :: L) (.int x :: S) k n H Q := W_s (rfl : (pj lw).1 24 79 = some (.iload_n 2, 1, 0)) rfl rfl rfl
theorem w24_80 {x : Int32} {l0 l1 l2 l3 : Slot} : W (pj lw) 24 80 (l0 :: l1 :: l2 :: l3 :: .val (.int x) :: L) S k n H Q ↔ W (pj lw) 24 82 (l0 :: l1 :: l2 :: l3 :: .val (.int x) :: L) (.int x :: S) k n H Q := W_s (rfl : (pj lw).1 24 80 = some (.iload 4, 2, 0)) rfl rfl rfl
theorem w24_82 {x y : Int32} : W (pj lw) 24 82 L (.int y :: .int x :: S) k n H Q ↔ W (pj lw) 24 83 L (.int (x + y) :: S) k n H Q := W_s (rfl : (pj lw).1 24 82 = some (.iadd, 1, 0)) rfl rfl rfl
theorem w24_83 {a : Nat} {x0 : Int32} : W (pj lw) 24 83 L (.int x0 :: .ref a :: S) k n H Q ↔ ((isO H a = true ∧ cs S + (3 + 11) + 0 ≤ 31) ∧ Cl (pj lw) 12 [.ref a, .int x0] H (fun v H => W (pj lw) 24 86 L (v.toList ++ S) k n H Q)) := W_inst (as := [.int x0]) (rfl : (pj lw).1 24 83 = some (.invokevirtual 151, 3, 12)) rfl rfl rfl (Nat.le_of_ble_eq_true rfl) (Nat.le_of_ble_eq_true rfl) ⟨rfl, rfl⟩
theorem w24_86 {x : Int32} {l0 l1 l2 l3 l4 l5 : Slot} : W (pj lw) 24 86 (l0 :: l1 :: l2 :: l3 :: l4 :: l5 :: .unset :: L) (.int x :: S) k n H Q ↔ W (pj lw) 24 88 (l0 :: l1 :: l2 :: l3 :: l4 :: l5 :: .val (.int x) :: L) S k n H Q := W_ist (rfl : (pj lw).1 24 86 = some (.istore 6, 2, 0)) rfl rfl
theorem w24_88 {x : Int32} {l0 : Slot} : W (pj lw) 24 88 (l0 :: .val (.int x) :: L) S k n H Q ↔ W (pj lw) 24 89 (l0 :: .val (.int x) :: L) (.int x :: S) k n H Q := W_s (rfl : (pj lw).1 24 88 = some (.iload_n 1, 1, 0)) rfl rfl rfl
theorem w24_89 : W (pj lw) 24 89 L S k n H Q ↔ W (pj lw) 24 92 L (.int 128 :: S) k n H Q := W_s (rfl : (pj lw).1 24 89 = some (.sipush 128, 3, 0)) rfl rfl rfl
theorem w24_92 {x y : Int32} : W (pj lw) 24 92 L (.int y :: .int x :: S) k n H Q ↔ W (pj lw) 24 93 L (.int (x * y) :: S) k n H Q := W_s (rfl : (pj lw).1 24 92 = some (.imul, 1, 0)) rfl rfl rfl
theorem w24_93 {x : Int32} {l0 l1 l2 l3 l4 l5 : Slot} : W (pj lw) 24 93 (l0 :: l1 :: l2 :: l3 :: l4 :: l5 :: .val (.int x) :: L) S k n H Q ↔ W (pj lw) 24 95 (l0 :: l1 :: l2 :: l3 :: l4 :: l5 :: .val (.int x) :: L) (.int x :: S) k n H Q := W_s (rfl : (pj lw).1 24 93 = some (.iload 6, 2, 0)) rfl rfl rfl
theorem w24_95 {x y : Int32} : W (pj lw) 24 95 L (.int y :: .int x :: S) k n H Q ↔ W (pj lw) 24 96 L (.int (x + y) :: S) k n H Q := W_s (rfl : (pj lw).1 24 95 = some (.iadd, 1, 0)) rfl rfl rfl
theorem w24_96 {x : Int32} {l0 l1 l2 l3 l4 l5 l6 : Slot} : W (pj lw) 24 96 (l0 :: l1 :: l2 :: l3 :: l4 :: l5 :: l6 :: .unset :: L) (.int x :: S) k n H Q ↔ W (pj lw) 24 98 (l0 :: l1 :: l2 :: l3 :: l4 :: l5 :: l6 :: .val (.int x) :: L) S k n H Q := W_ist (rfl : (pj lw).1 24 96 = some (.istore 7, 2, 0)) rfl rfl
theorem w24_98 {x : Nat} : W (pj lw) 24 98 (.val (.ref x) :: L) S k n H Q ↔ W (pj lw) 24 99 (.val (.ref x) :: L) (.ref x :: S) k n H Q := W_s (rfl : (pj lw).1 24 98 = some (.aload_n 0, 1, 0)) rfl rfl rfl
theorem w24_99 {a : Nat} : W (pj lw) 24 99 L (.ref a :: S) k n H Q ↔ (isO H a = true ∧ W (pj lw) 24 102 L (fld H a 27 :: S) k n H Q) := W_getf (rfl : (pj lw).1 24 99 = some (.getfield 26, 3, 27))
theorem w24_102 {x : Int32} {l0 l1 l2 l3 l4 l5 l6 : Slot} : W (pj lw) 24 102 (l0 :: l1 :: l2 :: l3 :: l4 :: l5 :: l6 :: .val (.int x) :: L) S k n H Q ↔ W (pj lw) 24 104 (l0 :: l1 :: l2 :: l3 :: l4 :: l5 :: l6 :: .val (.int x) :: L) (.int x :: S) k n H Q := W_s (rfl : (pj lw).1 24 102 = some (.iload 7, 2, 0)) rfl rfl rfl
theorem w24_104 : W (pj lw) 24 104 L S k n H Q ↔ W (pj lw) 24 105 L (.int 1 :: S) k n H Q := W_s (rfl : (pj lw).1 24 104 = some (.iconst 1, 1, 0)) rfl rfl rfl
theorem w24_105 {x i : Int32} {a : Nat} : W (pj lw) 24 105 L (.int x :: .int i :: .ref a :: S) k n H Q ↔ (((inAw H a .byte i = true ∧ okv .byte (.int x) = true) ∨ (inAw H a .boolean i = true ∧ okv .boolean (.int x) = true)) ∧ W (pj lw) 24 106 L S k n (wr H a i.toNatClampNeg (.int x)) Q) := W_bastore (rfl : (pj lw).1 24 105 = some (.bastore, 1, 0))
theorem w24_106 {x : Nat} : W (pj lw) 24 106 (.val (.ref x) :: L) S k n H Q ↔ W (pj lw) 24 107 (.val (.ref x) :: L) (.ref x :: S) k n H Q := W_s (rfl : (pj lw).1 24 106 = some (.aload_n 0, 1, 0)) rfl rfl rfl
theorem w24_107 {a : Nat} : W (pj lw) 24 107 L (.ref a :: S) k n H Q ↔ (isO H a = true ∧ W (pj lw) 24 110 L (fld H a 28 :: S) k n H Q) := W_getf (rfl : (pj lw).1 24 107 = some (.getfield 29, 3, 28))
theorem w24_110 {x : Int32} {l0 l1 l2 l3 l4 l5 l6 : Slot} : W (pj lw) 24 110 (l0 :: l1 :: l2 :: l3 :: l4 :: l5 :: l6 :: .val (.int x) :: L) S k n H Q ↔ W (pj lw) 24 112 (l0 :: l1 :: l2 :: l3 :: l4 :: l5 :: l6 :: .val (.int x) :: L) (.int x :: S) k n H Q := W_s (rfl : (pj lw).1 24 110 = some (.iload 7, 2, 0)) rfl rfl rfl
theorem w24_112 {x : Int32} {l0 l1 l2 l3 : Slot} : W (pj lw) 24 112 (l0 :: l1 :: l2 :: l3 :: .val (.int x) :: L) S k n H Q ↔ W (pj lw) 24 114 (l0 :: l1 :: l2 :: l3 :: .val (.int x) :: L) (.int x :: S) k n H Q := W_s (rfl : (pj lw).1 24 112 = some (.iload 4, 2, 0)) rfl rfl rfl
theorem w24_114 {x i : Int32} {a : Nat} : W (pj lw) 24 114 L (.int x :: .int i :: .ref a :: S) k n H Q ↔ (inAw H a .int i = true ∧ W (pj lw) 24 115 L S k n (wr H a i.toNatClampNeg (.int x)) Q) := W_iastore (rfl : (pj lw).1 24 114 = some (.iastore, 1, 0))
theorem w24_115 {x : Nat} : W (pj lw) 24 115 (.val (.ref x) :: L) S k n H Q ↔ W (pj lw) 24 116 (.val (.ref x) :: L) (.ref x :: S) k n H Q := W_s (rfl : (pj lw).1 24 115 = some (.aload_n 0, 1, 0)) rfl rfl rfl
theorem w24_116 {a : Nat} : W (pj lw) 24 116 L (.ref a :: S) k n H Q ↔ (isO H a = true ∧ W (pj lw) 24 119 L (fld H a 29 :: S) k n H Q) := W_getf (rfl : (pj lw).1 24 116 = some (.getfield 32, 3, 29))
theorem w24_119 {x : Int32} {l0 l1 l2 l3 l4 l5 l6 : Slot} : W (pj lw) 24 119 (l0 :: l1 :: l2 :: l3 :: l4 :: l5 :: l6 :: .val (.int x) :: L) S k n H Q ↔ W (pj lw) 24 121 (l0 :: l1 :: l2 :: l3 :: l4 :: l5 :: l6 :: .val (.int x) :: L) (.int x :: S) k n H Q := W_s (rfl : (pj lw).1 24 119 = some (.iload 7, 2, 0)) rfl rfl rfl
theorem w24_121 {x : Nat} : W (pj lw) 24 121 (.val (.ref x) :: L) S k n H Q ↔ W (pj lw) 24 122 (.val (.ref x) :: L) (.ref x :: S) k n H Q := W_s (rfl : (pj lw).1 24 121 = some (.aload_n 0, 1, 0)) rfl rfl rfl
theorem w24_122 {a : Nat} : W (pj lw) 24 122 L (.ref a :: S) k n H Q ↔ (isO H a = true ∧ W (pj lw) 24 125 L (fld H a 25 :: S) k n H Q) := W_getf (rfl : (pj lw).1 24 122 = some (.getfield 20, 3, 25))
theorem w24_125 {x : Int32} {l0 l1 l2 : Slot} : W (pj lw) 24 125 (l0 :: l1 :: l2 :: .val (.int x) :: L) S k n H Q ↔ W (pj lw) 24 126 (l0 :: l1 :: l2 :: .val (.int x) :: L) (.int x :: S) k n H Q := W_s (rfl : (pj lw).1 24 125 = some (.iload_n 3, 1, 0)) rfl rfl rfl
theorem w24_126 {i : Int32} {a : Nat} : W (pj lw) 24 126 L (.int i :: .ref a :: S) k n H Q ↔ (inA H a .int i = true ∧ W (pj lw) 24 127 L (elt H a i :: S) k n H Q) := W_iaload (rfl : (pj lw).1 24 126 = some (.iaload, 1, 0))
theorem w24_127 {x i : Int32} {a : Nat} : W (pj lw) 24 127 L (.int x :: .int i :: .ref a :: S) k n H Q ↔ (inAw H a .int i = true ∧ W (pj lw) 24 128 L S k n (wr H a i.toNatClampNeg (.int x)) Q) := W_iastore (rfl : (pj lw).1 24 127 = some (.iastore, 1, 0))
theorem w24_128 {x : Nat} : W (pj lw) 24 128 (.val (.ref x) :: L) S k n H Q ↔ W (pj lw) 24 129 (.val (.ref x) :: L) (.ref x :: S) k n H Q := W_s (rfl : (pj lw).1 24 128 = some (.aload_n 0, 1, 0)) rfl rfl rfl
theorem w24_129 {a : Nat} : W (pj lw) 24 129 L (.ref a :: S) k n H Q ↔ (isO H a = true ∧ W (pj lw) 24 132 L (fld H a 30 :: S) k n H Q) := W_getf (rfl : (pj lw).1 24 129 = some (.getfield 35, 3, 30))
theorem w24_132 {x : Int32} {l0 l1 l2 l3 l4 l5 l6 : Slot} : W (pj lw) 24 132 (l0 :: l1 :: l2 :: l3 :: l4 :: l5 :: l6 :: .val (.int x) :: L) S k n H Q ↔ W (pj lw) 24 134 (l0 :: l1 :: l2 :: l3 :: l4 :: l5 :: l6 :: .val (.int x) :: L) (.int x :: S) k n H Q := W_s (rfl : (pj lw).1 24 132 = some (.iload 7, 2, 0)) rfl rfl rfl
theorem w24_134 {x : Nat} : W (pj lw) 24 134 (.val (.ref x) :: L) S k n H Q ↔ W (pj lw) 24 135 (.val (.ref x) :: L) (.ref x :: S) k n H Q := W_s (rfl : (pj lw).1 24 134 = some (.aload_n 0, 1, 0)) rfl rfl rfl
theorem w24_135 {a : Nat} : W (pj lw) 24 135 L (.ref a :: S) k n H Q ↔ (isO H a = true ∧ W (pj lw) 24 138 L (fld H a 26 :: S) k n H Q) := W_getf (rfl : (pj lw).1 24 135 = some (.getfield 23, 3, 26))
theorem w24_138 {x : Int32} {l0 l1 l2 : Slot} : W (pj lw) 24 138 (l0 :: l1 :: l2 :: .val (.int x) :: L) S k n H Q ↔ W (pj lw) 24 139 (l0 :: l1 :: l2 :: .val (.int x) :: L) (.int x :: S) k n H Q := W_s (rfl : (pj lw).1 24 138 = some (.iload_n 3, 1, 0)) rfl rfl rfl
theorem w24_139 {i : Int32} {a : Nat} : W (pj lw) 24 139 L (.int i :: .ref a :: S) k n H Q ↔ ((inA H a .byte i = true ∨ inA H a .boolean i = true) ∧ W (pj lw) 24 140 L (elt H a i :: S) k n H Q) := W_baload (rfl : (pj lw).1 24 139 = some (.baload, 1, 0))
theorem w24_140 {x i : Int32} {a : Nat} : W (pj lw) 24 140 L (.int x :: .int i :: .ref a :: S) k n H Q ↔ (((inAw H a .byte i = true ∧ okv .byte (.int x) = true) ∨ (inAw H a .boolean i = true ∧ okv .boolean (.int x) = true)) ∧ W (pj lw) 24 141 L S k n (wr H a i.toNatClampNeg (.int x)) Q) := W_bastore (rfl : (pj lw).1 24 140 = some (.bastore, 1, 0))
theorem w24_141 : W (pj lw) 24 141 L [] k n H Q ↔ Q none H := W_r (rfl : (pj lw).1 24 141 = some (.return_, 1, 0)) rfl
theorem c25 {x0 : Nat} {x1 : Int32} {x2 : Int32} {x3 : Int32} : Cl (pj lw) 25 [.ref x0, .int x1, .int x2, .int x3] H Q ↔ W (pj lw) 25 0 [.val (.ref x0), .val (.int x1), .val (.int x2), .val (.int x3), .unset] [] 0 0 H Q := cl_unf rfl
theorem w25_0 {x : Int32} {l0 : Slot} : W (pj lw) 25 0 (l0 :: .val (.int x) :: L) S k n H Q ↔ W (pj lw) 25 1 (l0 :: .val (.int x) :: L) (.int x :: S) k n H Q := W_s (rfl : (pj lw).1 25 0 = some (.iload_n 1, 1, 0)) rfl rfl rfl
theorem w25_1 {x : Int32} : W (pj lw) 25 1 L (.int x :: S) k n H Q ↔ (if x = 0 then W (pj lw) 25 4 L S k n H Q else W (pj lw) 25 20 L S k n H Q) := W_if_ne (rfl : (pj lw).1 25 1 = some (.ifCond .ne 19, 3, 0)) rfl
theorem w25_4 {x : Nat} : W (pj lw) 25 4 (.val (.ref x) :: L) S k n H Q ↔ W (pj lw) 25 5 (.val (.ref x) :: L) (.ref x :: S) k n H Q := W_s (rfl : (pj lw).1 25 4 = some (.aload_n 0, 1, 0)) rfl rfl rfl
theorem w25_5 {a : Nat} : W (pj lw) 25 5 L (.ref a :: S) k n H Q ↔ (isO H a = true ∧ W (pj lw) 25 8 L (fld H a 8 :: S) k n H Q) := W_getf (rfl : (pj lw).1 25 5 = some (.getfield 84, 3, 8))
theorem w25_8 {x : Int32} : W (pj lw) 25 8 L (.int x :: S) k n H Q ↔ (if x < 0 then W (pj lw) 25 20 L S k n H Q else W (pj lw) 25 11 L S k n H Q) := W_if_lt (rfl : (pj lw).1 25 8 = some (.ifCond .lt 12, 3, 0)) rfl
theorem w25_11 {x : Nat} : W (pj lw) 25 11 (.val (.ref x) :: L) S k n H Q ↔ W (pj lw) 25 12 (.val (.ref x) :: L) (.ref x :: S) k n H Q := W_s (rfl : (pj lw).1 25 11 = some (.aload_n 0, 1, 0)) rfl rfl rfl
theorem w25_12 {a : Nat} : W (pj lw) 25 12 L (.ref a :: S) k n H Q ↔ (isO H a = true ∧ W (pj lw) 25 15 L (fld H a 26 :: S) k n H Q) := W_getf (rfl : (pj lw).1 25 12 = some (.getfield 23, 3, 26))
theorem w25_15 {x : Int32} {l0 l1 : Slot} : W (pj lw) 25 15 (l0 :: l1 :: .val (.int x) :: L) S k n H Q ↔ W (pj lw) 25 16 (l0 :: l1 :: .val (.int x) :: L) (.int x :: S) k n H Q := W_s (rfl : (pj lw).1 25 15 = some (.iload_n 2, 1, 0)) rfl rfl rfl
theorem w25_16 {i : Int32} {a : Nat} : W (pj lw) 25 16 L (.int i :: .ref a :: S) k n H Q ↔ ((inA H a .byte i = true ∨ inA H a .boolean i = true) ∧ W (pj lw) 25 17 L (elt H a i :: S) k n H Q) := W_baload (rfl : (pj lw).1 25 16 = some (.baload, 1, 0))
theorem w25_17 {x : Int32} : W (pj lw) 25 17 L (.int x :: S) k n H Q ↔ (if x = 0 then W (pj lw) 25 20 L S k n H Q else W (pj lw) 25 22 L S k n H Q) := W_if_ne (rfl : (pj lw).1 25 17 = some (.ifCond .ne 5, 3, 0)) rfl
theorem w25_20 : W (pj lw) 25 20 L S k n H Q ↔ W (pj lw) 25 21 L (.int 0 :: S) k n H Q := W_s (rfl : (pj lw).1 25 20 = some (.iconst 0, 1, 0)) rfl rfl rfl
theorem w25_21 {x : Int32} : W (pj lw) 25 21 L (.int x :: S) k n H Q ↔ Q (some (.int x)) H := W_r (rfl : (pj lw).1 25 21 = some (.ireturn, 1, 0)) rfl
theorem w25_22 : W (pj lw) 25 22 L S k n H Q ↔ W (pj lw) 25 23 L (.int 1 :: S) k n H Q := W_s (rfl : (pj lw).1 25 22 = some (.iconst 1, 1, 0)) rfl rfl rfl
theorem w25_23 {x : Int32} {l0 l1 l2 l3 : Slot} : W (pj lw) 25 23 (l0 :: l1 :: l2 :: l3 :: .unset :: L) (.int x :: S) k n H Q ↔ W (pj lw) 25 25 (l0 :: l1 :: l2 :: l3 :: .val (.int x) :: L) S k n H Q := W_ist (rfl : (pj lw).1 25 23 = some (.istore 4, 2, 0)) rfl rfl
theorem w25_25 {x : Int32} {l0 l1 l2 l3 : Slot} : W (pj lw) 25 25 (l0 :: l1 :: l2 :: l3 :: .val (.int x) :: L) S k n H Q ↔ W (pj lw) 25 27 (l0 :: l1 :: l2 :: l3 :: .val (.int x) :: L) (.int x :: S) k n H Q := W_s (rfl : (pj lw).1 25 25 = some (.iload 4, 2, 0)) rfl rfl rfl
theorem w25_27 {x : Int32} {l0 l1 l2 : Slot} : W (pj lw) 25 27 (l0 :: l1 :: l2 :: .val (.int x) :: L) S k n H Q ↔ W (pj lw) 25 28 (l0 :: l1 :: l2 :: .val (.int x) :: L) (.int x :: S) k n H Q := W_s (rfl : (pj lw).1 25 27 = some (.iload_n 3, 1, 0)) rfl rfl rfl
theorem w25_28 {x y : Int32} : W (pj lw) 25 28 L (.int y :: .int x :: S) k n H Q ↔ (if y < x then W (pj lw) 25 55 L S k n H Q else W (pj lw) 25 31 L S k n H Q) := W_icmp_gt (rfl : (pj lw).1 25 28 = some (.if_icmp .gt 27, 3, 0)) rfl
theorem w25_31 {x : Nat} : W (pj lw) 25 31 (.val (.ref x) :: L) S k n H Q ↔ W (pj lw) 25 32 (.val (.ref x) :: L) (.ref x :: S) k n H Q := W_s (rfl : (pj lw).1 25 31 = some (.aload_n 0, 1, 0)) rfl rfl rfl
theorem w25_32 {x : Int32} {l0 l1 : Slot} : W (pj lw) 25 32 (l0 :: l1 :: .val (.int x) :: L) S k n H Q ↔ W (pj lw) 25 33 (l0 :: l1 :: .val (.int x) :: L) (.int x :: S) k n H Q := W_s (rfl : (pj lw).1 25 32 = some (.iload_n 2, 1, 0)) rfl rfl rfl
theorem w25_33 {x : Int32} {l0 l1 l2 l3 : Slot} : W (pj lw) 25 33 (l0 :: l1 :: l2 :: l3 :: .val (.int x) :: L) S k n H Q ↔ W (pj lw) 25 35 (l0 :: l1 :: l2 :: l3 :: .val (.int x) :: L) (.int x :: S) k n H Q := W_s (rfl : (pj lw).1 25 33 = some (.iload 4, 2, 0)) rfl rfl rfl
theorem w25_35 {x y : Int32} : W (pj lw) 25 35 L (.int y :: .int x :: S) k n H Q ↔ W (pj lw) 25 36 L (.int (x + y) :: S) k n H Q := W_s (rfl : (pj lw).1 25 35 = some (.iadd, 1, 0)) rfl rfl rfl
theorem w25_36 {a : Nat} {x0 : Int32} : W (pj lw) 25 36 L (.int x0 :: .ref a :: S) k n H Q ↔ ((isO H a = true ∧ cs S + (3 + 11) + 0 ≤ 14) ∧ Cl (pj lw) 12 [.ref a, .int x0] H (fun v H => W (pj lw) 25 39 L (v.toList ++ S) k n H Q)) := W_inst (as := [.int x0]) (rfl : (pj lw).1 25 36 = some (.invokevirtual 151, 3, 12)) rfl rfl rfl (Nat.le_of_ble_eq_true rfl) (Nat.le_of_ble_eq_true rfl) ⟨rfl, rfl⟩
theorem w25_39 {x : Nat} : W (pj lw) 25 39 (.val (.ref x) :: L) S k n H Q ↔ W (pj lw) 25 40 (.val (.ref x) :: L) (.ref x :: S) k n H Q := W_s (rfl : (pj lw).1 25 39 = some (.aload_n 0, 1, 0)) rfl rfl rfl
theorem w25_40 {a : Nat} : W (pj lw) 25 40 L (.ref a :: S) k n H Q ↔ (isO H a = true ∧ W (pj lw) 25 43 L (fld H a 8 :: S) k n H Q) := W_getf (rfl : (pj lw).1 25 40 = some (.getfield 84, 3, 8))
theorem w25_43 {x y : Int32} : W (pj lw) 25 43 L (.int y :: .int x :: S) k n H Q ↔ (if x = y then W (pj lw) 25 46 L S k n H Q else W (pj lw) 25 49 L S k n H Q) := W_icmp_ne (rfl : (pj lw).1 25 43 = some (.if_icmp .ne 6, 3, 0)) rfl
theorem w25_46 {x : Int32} {l0 l1 l2 l3 : Slot} : W (pj lw) 25 46 (l0 :: l1 :: l2 :: l3 :: .val (.int x) :: L) S k n H Q ↔ W (pj lw) 25 48 (l0 :: l1 :: l2 :: l3 :: .val (.int x) :: L) (.int x :: S) k n H Q := W_s (rfl : (pj lw).1 25 46 = some (.iload 4, 2, 0)) rfl rfl rfl
theorem w25_48 {x : Int32} : W (pj lw) 25 48 L (.int x :: S) k n H Q ↔ Q (some (.int x)) H := W_r (rfl : (pj lw).1 25 48 = some (.ireturn, 1, 0)) rfl
theorem w25_49 {x : Int32} {l0 l1 l2 l3 : Slot} : W (pj lw) 25 49 (l0 :: l1 :: l2 :: l3 :: .val (.int x) :: L) S k n H Q ↔ W (pj lw) 25 52 (l0 :: l1 :: l2 :: l3 :: .val (.int (x + 1)) :: L) S k n H Q := W_s (rfl : (pj lw).1 25 49 = some (.iinc 4 1, 3, 0)) rfl rfl rfl
theorem w25_52 : W (pj lw) 25 52 L S k n H Q ↔ W (pj lw) 25 25 L S k n H Q := W_goto (rfl : (pj lw).1 25 52 = some (.goto (-27), 3, 0)) rfl
theorem w25_55 : W (pj lw) 25 55 L S k n H Q ↔ W (pj lw) 25 56 L (.int 0 :: S) k n H Q := W_s (rfl : (pj lw).1 25 55 = some (.iconst 0, 1, 0)) rfl rfl rfl
theorem w25_56 {x : Int32} : W (pj lw) 25 56 L (.int x :: S) k n H Q ↔ Q (some (.int x)) H := W_r (rfl : (pj lw).1 25 56 = some (.ireturn, 1, 0)) rfl
theorem c26 {x0 : Nat} {x1 : Int32} {x2 : Int32} : Cl (pj lw) 26 [.ref x0, .int x1, .int x2] H Q ↔ W (pj lw) 26 0 [.val (.ref x0), .val (.int x1), .val (.int x2), .unset, .unset, .unset] [] 0 0 H Q := cl_unf rfl
theorem w26_0 : W (pj lw) 26 0 L S k n H Q ↔ W (pj lw) 26 1 L (.int 1 :: S) k n H Q := W_s (rfl : (pj lw).1 26 0 = some (.iconst 1, 1, 0)) rfl rfl rfl
theorem w26_1 {x : Int32} {l0 l1 l2 : Slot} : W (pj lw) 26 1 (l0 :: l1 :: l2 :: .unset :: L) (.int x :: S) k n H Q ↔ W (pj lw) 26 2 (l0 :: l1 :: l2 :: .val (.int x) :: L) S k n H Q := W_istn (rfl : (pj lw).1 26 1 = some (.istore_n 3, 1, 0)) rfl rfl
theorem w26_2 {x : Int32} {l0 l1 l2 : Slot} : W (pj lw) 26 2 (l0 :: l1 :: l2 :: .val (.int x) :: L) S k n H Q ↔ W (pj lw) 26 3 (l0 :: l1 :: l2 :: .val (.int x) :: L) (.int x :: S) k n H Q := W_s (rfl : (pj lw).1 26 2 = some (.iload_n 3, 1, 0)) rfl rfl rfl
theorem w26_3 {x : Int32} {l0 l1 : Slot} : W (pj lw) 26 3 (l0 :: l1 :: .val (.int x) :: L) S k n H Q ↔ W (pj lw) 26 4 (l0 :: l1 :: .val (.int x) :: L) (.int x :: S) k n H Q := W_s (rfl : (pj lw).1 26 3 = some (.iload_n 2, 1, 0)) rfl rfl rfl
theorem w26_4 {x y : Int32} : W (pj lw) 26 4 L (.int y :: .int x :: S) k n H Q ↔ (if y < x then W (pj lw) 26 96 L S k n H Q else W (pj lw) 26 7 L S k n H Q) := W_icmp_gt (rfl : (pj lw).1 26 4 = some (.if_icmp .gt 92, 3, 0)) rfl
theorem w26_7 {x : Nat} : W (pj lw) 26 7 (.val (.ref x) :: L) S k n H Q ↔ W (pj lw) 26 8 (.val (.ref x) :: L) (.ref x :: S) k n H Q := W_s (rfl : (pj lw).1 26 7 = some (.aload_n 0, 1, 0)) rfl rfl rfl
theorem w26_8 {x : Int32} {l0 : Slot} : W (pj lw) 26 8 (l0 :: .val (.int x) :: L) S k n H Q ↔ W (pj lw) 26 9 (l0 :: .val (.int x) :: L) (.int x :: S) k n H Q := W_s (rfl : (pj lw).1 26 8 = some (.iload_n 1, 1, 0)) rfl rfl rfl
theorem w26_9 {x : Int32} {l0 l1 l2 : Slot} : W (pj lw) 26 9 (l0 :: l1 :: l2 :: .val (.int x) :: L) S k n H Q ↔ W (pj lw) 26 10 (l0 :: l1 :: l2 :: .val (.int x) :: L) (.int x :: S) k n H Q := W_s (rfl : (pj lw).1 26 9 = some (.iload_n 3, 1, 0)) rfl rfl rfl
theorem w26_10 {x y : Int32} : W (pj lw) 26 10 L (.int y :: .int x :: S) k n H Q ↔ W (pj lw) 26 11 L (.int (x + y) :: S) k n H Q := W_s (rfl : (pj lw).1 26 10 = some (.iadd, 1, 0)) rfl rfl rfl
theorem w26_11 {a : Nat} {x0 : Int32} : W (pj lw) 26 11 L (.int x0 :: .ref a :: S) k n H Q ↔ ((isO H a = true ∧ cs S + (3 + 11) + 0 ≤ 14) ∧ Cl (pj lw) 12 [.ref a, .int x0] H (fun v H => W (pj lw) 26 14 L (v.toList ++ S) k n H Q)) := W_inst (as := [.int x0]) (rfl : (pj lw).1 26 11 = some (.invokevirtual 151, 3, 12)) rfl rfl rfl (Nat.le_of_ble_eq_true rfl) (Nat.le_of_ble_eq_true rfl) ⟨rfl, rfl⟩
theorem w26_14i {y : Int32} {x : Int32} {l0 l1 l2 l3 : Slot} : W (pj lw) 26 14 (l0 :: l1 :: l2 :: l3 :: .val (.int y) :: L) (.int x :: S) k n H Q ↔ W (pj lw) 26 16 (l0 :: l1 :: l2 :: l3 :: .val (.int x) :: L) S k n H Q := W_ist (rfl : (pj lw).1 26 14 = some (.istore 4, 2, 0)) rfl rfl
theorem w26_14 {x : Int32} {l0 l1 l2 l3 : Slot} : W (pj lw) 26 14 (l0 :: l1 :: l2 :: l3 :: .unset :: L) (.int x :: S) k n H Q ↔ W (pj lw) 26 16 (l0 :: l1 :: l2 :: l3 :: .val (.int x) :: L) S k n H Q := W_ist (rfl : (pj lw).1 26 14 = some (.istore 4, 2, 0)) rfl rfl
theorem w26_16 {x : Nat} : W (pj lw) 26 16 (.val (.ref x) :: L) S k n H Q ↔ W (pj lw) 26 17 (.val (.ref x) :: L) (.ref x :: S) k n H Q := W_s (rfl : (pj lw).1 26 16 = some (.aload_n 0, 1, 0)) rfl rfl rfl
theorem w26_17 {a : Nat} : W (pj lw) 26 17 L (.ref a :: S) k n H Q ↔ (isO H a = true ∧ W (pj lw) 26 20 L (fld H a 4 :: S) k n H Q) := W_getf (rfl : (pj lw).1 26 17 = some (.getfield 78, 3, 4))
theorem w26_20 {x : Int32} : W (pj lw) 26 20 L (.int x :: S) k n H Q ↔ (if x < 0 then W (pj lw) 26 42 L S k n H Q else W (pj lw) 26 23 L S k n H Q) := W_if_lt (rfl : (pj lw).1 26 20 = some (.ifCond .lt 22, 3, 0)) rfl
theorem w26_23 {x : Int32} {l0 l1 l2 l3 : Slot} : W (pj lw) 26 23 (l0 :: l1 :: l2 :: l3 :: .val (.int x) :: L) S k n H Q ↔ W (pj lw) 26 25 (l0 :: l1 :: l2 :: l3 :: .val (.int x) :: L) (.int x :: S) k n H Q := W_s (rfl : (pj lw).1 26 23 = some (.iload 4, 2, 0)) rfl rfl rfl
theorem w26_25 {x : Nat} : W (pj lw) 26 25 (.val (.ref x) :: L) S k n H Q ↔ W (pj lw) 26 26 (.val (.ref x) :: L) (.ref x :: S) k n H Q := W_s (rfl : (pj lw).1 26 25 = some (.aload_n 0, 1, 0)) rfl rfl rfl
theorem w26_26 {a : Nat} : W (pj lw) 26 26 L (.ref a :: S) k n H Q ↔ (isO H a = true ∧ W (pj lw) 26 29 L (fld H a 4 :: S) k n H Q) := W_getf (rfl : (pj lw).1 26 26 = some (.getfield 78, 3, 4))
theorem w26_29 {x y : Int32} : W (pj lw) 26 29 L (.int y :: .int x :: S) k n H Q ↔ (if x = y then W (pj lw) 26 32 L S k n H Q else W (pj lw) 26 42 L S k n H Q) := W_icmp_ne (rfl : (pj lw).1 26 29 = some (.if_icmp .ne 13, 3, 0)) rfl
theorem w26_32 {x : Nat} : W (pj lw) 26 32 (.val (.ref x) :: L) S k n H Q ↔ W (pj lw) 26 33 (.val (.ref x) :: L) (.ref x :: S) k n H Q := W_s (rfl : (pj lw).1 26 32 = some (.aload_n 0, 1, 0)) rfl rfl rfl
theorem w26_33 {x : Nat} : W (pj lw) 26 33 L (.ref x :: S) k n H Q ↔ W (pj lw) 26 34 L (.ref x :: .ref x :: S) k n H Q := W_s (rfl : (pj lw).1 26 33 = some (.dup, 1, 0)) rfl rfl rfl
theorem w26_34 {a : Nat} : W (pj lw) 26 34 L (.ref a :: S) k n H Q ↔ (isO H a = true ∧ W (pj lw) 26 37 L (fld H a 18 :: S) k n H Q) := W_getf (rfl : (pj lw).1 26 34 = some (.getfield 200, 3, 18))
theorem w26_37 : W (pj lw) 26 37 L S k n H Q ↔ W (pj lw) 26 38 L (.long 1 :: S) k n H Q := W_s (rfl : (pj lw).1 26 37 = some (.lconst 1, 1, 0)) rfl rfl rfl
theorem w26_38 {x y : Int64} : W (pj lw) 26 38 L (.long y :: .long x :: S) k n H Q ↔ W (pj lw) 26 39 L (.long (x + y) :: S) k n H Q := W_s (rfl : (pj lw).1 26 38 = some (.ladd, 1, 0)) rfl rfl rfl
theorem w26_39 {a : Nat} {v : Value} : W (pj lw) 26 39 L (v :: .ref a :: S) k n H Q ↔ ((isOw H a = true ∧ okv (.long) v = true) ∧ W (pj lw) 26 42 L S k n (wr H a 18 v) Q) := W_putf (rfl : (pj lw).1 26 39 = some (.putfield 200, 3, 18))
theorem w26_42 : W (pj lw) 26 42 L S k n H Q ↔ W (pj lw) 26 43 L (.int 0 :: S) k n H Q := W_s (rfl : (pj lw).1 26 42 = some (.iconst 0, 1, 0)) rfl rfl rfl
theorem w26_43i {y : Int32} {x : Int32} {l0 l1 l2 l3 l4 : Slot} : W (pj lw) 26 43 (l0 :: l1 :: l2 :: l3 :: l4 :: .val (.int y) :: L) (.int x :: S) k n H Q ↔ W (pj lw) 26 45 (l0 :: l1 :: l2 :: l3 :: l4 :: .val (.int x) :: L) S k n H Q := W_ist (rfl : (pj lw).1 26 43 = some (.istore 5, 2, 0)) rfl rfl
theorem w26_43 {x : Int32} {l0 l1 l2 l3 l4 : Slot} : W (pj lw) 26 43 (l0 :: l1 :: l2 :: l3 :: l4 :: .unset :: L) (.int x :: S) k n H Q ↔ W (pj lw) 26 45 (l0 :: l1 :: l2 :: l3 :: l4 :: .val (.int x) :: L) S k n H Q := W_ist (rfl : (pj lw).1 26 43 = some (.istore 5, 2, 0)) rfl rfl
theorem w26_45 {x : Int32} {l0 l1 l2 l3 l4 : Slot} : W (pj lw) 26 45 (l0 :: l1 :: l2 :: l3 :: l4 :: .val (.int x) :: L) S k n H Q ↔ W (pj lw) 26 47 (l0 :: l1 :: l2 :: l3 :: l4 :: .val (.int x) :: L) (.int x :: S) k n H Q := W_s (rfl : (pj lw).1 26 45 = some (.iload 5, 2, 0)) rfl rfl rfl
theorem w26_47 : W (pj lw) 26 47 L S k n H Q ↔ W (pj lw) 26 48 L (.int 4 :: S) k n H Q := W_s (rfl : (pj lw).1 26 47 = some (.iconst 4, 1, 0)) rfl rfl rfl
theorem w26_48 {x y : Int32} : W (pj lw) 26 48 L (.int y :: .int x :: S) k n H Q ↔ (if x < y then W (pj lw) 26 51 L S k n H Q else W (pj lw) 26 90 L S k n H Q) := W_icmp_ge (rfl : (pj lw).1 26 48 = some (.if_icmp .ge 42, 3, 0)) rfl
theorem w26_51 {x : Nat} : W (pj lw) 26 51 (.val (.ref x) :: L) S k n H Q ↔ W (pj lw) 26 52 (.val (.ref x) :: L) (.ref x :: S) k n H Q := W_s (rfl : (pj lw).1 26 51 = some (.aload_n 0, 1, 0)) rfl rfl rfl
theorem w26_52 {a : Nat} : W (pj lw) 26 52 L (.ref a :: S) k n H Q ↔ (isO H a = true ∧ W (pj lw) 26 55 L (fld H a 33 :: S) k n H Q) := W_getf (rfl : (pj lw).1 26 52 = some (.getfield 44, 3, 33))
theorem w26_55 {x : Int32} {l0 l1 l2 l3 l4 : Slot} : W (pj lw) 26 55 (l0 :: l1 :: l2 :: l3 :: l4 :: .val (.int x) :: L) S k n H Q ↔ W (pj lw) 26 57 (l0 :: l1 :: l2 :: l3 :: l4 :: .val (.int x) :: L) (.int x :: S) k n H Q := W_s (rfl : (pj lw).1 26 55 = some (.iload 5, 2, 0)) rfl rfl rfl
theorem w26_57 {i : Int32} {a : Nat} : W (pj lw) 26 57 L (.int i :: .ref a :: S) k n H Q ↔ (inA H a .int i = true ∧ W (pj lw) 26 58 L (elt H a i :: S) k n H Q) := W_iaload (rfl : (pj lw).1 26 57 = some (.iaload, 1, 0))
theorem w26_58 {x : Int32} : W (pj lw) 26 58 L (.int x :: S) k n H Q ↔ (if x < 0 then W (pj lw) 26 84 L S k n H Q else W (pj lw) 26 61 L S k n H Q) := W_if_lt (rfl : (pj lw).1 26 58 = some (.ifCond .lt 26, 3, 0)) rfl
theorem w26_61 {x : Int32} {l0 l1 l2 l3 : Slot} : W (pj lw) 26 61 (l0 :: l1 :: l2 :: l3 :: .val (.int x) :: L) S k n H Q ↔ W (pj lw) 26 63 (l0 :: l1 :: l2 :: l3 :: .val (.int x) :: L) (.int x :: S) k n H Q := W_s (rfl : (pj lw).1 26 61 = some (.iload 4, 2, 0)) rfl rfl rfl
theorem w26_63 {x : Nat} : W (pj lw) 26 63 (.val (.ref x) :: L) S k n H Q ↔ W (pj lw) 26 64 (.val (.ref x) :: L) (.ref x :: S) k n H Q := W_s (rfl : (pj lw).1 26 63 = some (.aload_n 0, 1, 0)) rfl rfl rfl
theorem w26_64 {a : Nat} : W (pj lw) 26 64 L (.ref a :: S) k n H Q ↔ (isO H a = true ∧ W (pj lw) 26 67 L (fld H a 33 :: S) k n H Q) := W_getf (rfl : (pj lw).1 26 64 = some (.getfield 44, 3, 33))
theorem w26_67 {x : Int32} {l0 l1 l2 l3 l4 : Slot} : W (pj lw) 26 67 (l0 :: l1 :: l2 :: l3 :: l4 :: .val (.int x) :: L) S k n H Q ↔ W (pj lw) 26 69 (l0 :: l1 :: l2 :: l3 :: l4 :: .val (.int x) :: L) (.int x :: S) k n H Q := W_s (rfl : (pj lw).1 26 67 = some (.iload 5, 2, 0)) rfl rfl rfl
theorem w26_69 {i : Int32} {a : Nat} : W (pj lw) 26 69 L (.int i :: .ref a :: S) k n H Q ↔ (inA H a .int i = true ∧ W (pj lw) 26 70 L (elt H a i :: S) k n H Q) := W_iaload (rfl : (pj lw).1 26 69 = some (.iaload, 1, 0))
theorem w26_70 {x y : Int32} : W (pj lw) 26 70 L (.int y :: .int x :: S) k n H Q ↔ (if x = y then W (pj lw) 26 73 L S k n H Q else W (pj lw) 26 84 L S k n H Q) := W_icmp_ne (rfl : (pj lw).1 26 70 = some (.if_icmp .ne 14, 3, 0)) rfl
theorem w26_73 {x : Nat} : W (pj lw) 26 73 (.val (.ref x) :: L) S k n H Q ↔ W (pj lw) 26 74 (.val (.ref x) :: L) (.ref x :: S) k n H Q := W_s (rfl : (pj lw).1 26 73 = some (.aload_n 0, 1, 0)) rfl rfl rfl
theorem w26_74 {a : Nat} : W (pj lw) 26 74 L (.ref a :: S) k n H Q ↔ (isO H a = true ∧ W (pj lw) 26 77 L (fld H a 34 :: S) k n H Q) := W_getf (rfl : (pj lw).1 26 74 = some (.getfield 47, 3, 34))
theorem w26_77 {x : Int32} {l0 l1 l2 l3 l4 : Slot} : W (pj lw) 26 77 (l0 :: l1 :: l2 :: l3 :: l4 :: .val (.int x) :: L) S k n H Q ↔ W (pj lw) 26 79 (l0 :: l1 :: l2 :: l3 :: l4 :: .val (.int x) :: L) (.int x :: S) k n H Q := W_s (rfl : (pj lw).1 26 77 = some (.iload 5, 2, 0)) rfl rfl rfl
theorem w26_79 {x : Int32} {y : Nat} : W (pj lw) 26 79 L (.int x :: .ref y :: S) k n H Q ↔ W (pj lw) 26 80 L (.int x :: .ref y :: .int x :: .ref y :: S) k n H Q := W_s (rfl : (pj lw).1 26 79 = some (.dup2, 1, 0)) rfl rfl rfl
theorem w26_80 {i : Int32} {a : Nat} : W (pj lw) 26 80 L (.int i :: .ref a :: S) k n H Q ↔ (inA H a .long i = true ∧ W (pj lw) 26 81 L (elt H a i :: S) k n H Q) := W_laload (rfl : (pj lw).1 26 80 = some (.laload, 1, 0))
theorem w26_81 : W (pj lw) 26 81 L S k n H Q ↔ W (pj lw) 26 82 L (.long 1 :: S) k n H Q := W_s (rfl : (pj lw).1 26 81 = some (.lconst 1, 1, 0)) rfl rfl rfl
theorem w26_82 {x y : Int64} : W (pj lw) 26 82 L (.long y :: .long x :: S) k n H Q ↔ W (pj lw) 26 83 L (.long (x + y) :: S) k n H Q := W_s (rfl : (pj lw).1 26 82 = some (.ladd, 1, 0)) rfl rfl rfl
theorem w26_83 {x : Int64} {i : Int32} {a : Nat} : W (pj lw) 26 83 L (.long x :: .int i :: .ref a :: S) k n H Q ↔ (inAw H a .long i = true ∧ W (pj lw) 26 84 L S k n (wr H a i.toNatClampNeg (.long x)) Q) := W_lastore (rfl : (pj lw).1 26 83 = some (.lastore, 1, 0))
theorem w26_84 {x : Int32} {l0 l1 l2 l3 l4 : Slot} : W (pj lw) 26 84 (l0 :: l1 :: l2 :: l3 :: l4 :: .val (.int x) :: L) S k n H Q ↔ W (pj lw) 26 87 (l0 :: l1 :: l2 :: l3 :: l4 :: .val (.int (x + 1)) :: L) S k n H Q := W_s (rfl : (pj lw).1 26 84 = some (.iinc 5 1, 3, 0)) rfl rfl rfl
theorem w26_87 : W (pj lw) 26 87 L S k n H Q ↔ W (pj lw) 26 45 L S k n H Q := W_goto (rfl : (pj lw).1 26 87 = some (.goto (-42), 3, 0)) rfl
theorem w26_90 {x : Int32} {l0 l1 l2 : Slot} : W (pj lw) 26 90 (l0 :: l1 :: l2 :: .val (.int x) :: L) S k n H Q ↔ W (pj lw) 26 93 (l0 :: l1 :: l2 :: .val (.int (x + 1)) :: L) S k n H Q := W_s (rfl : (pj lw).1 26 90 = some (.iinc 3 1, 3, 0)) rfl rfl rfl
theorem w26_93 : W (pj lw) 26 93 L S k n H Q ↔ W (pj lw) 26 2 L S k n H Q := W_goto (rfl : (pj lw).1 26 93 = some (.goto (-91), 3, 0)) rfl
theorem w26_96 : W (pj lw) 26 96 L [] k n H Q ↔ Q none H := W_r (rfl : (pj lw).1 26 96 = some (.return_, 1, 0)) rfl
theorem c27 {x0 : Nat} : Cl (pj lw) 27 [.ref x0] H Q ↔ W (pj lw) 27 0 [.val (.ref x0), .unset] [] 0 0 H Q := cl_unf rfl
theorem w27_0 {x : Nat} : W (pj lw) 27 0 (.val (.ref x) :: L) S k n H Q ↔ W (pj lw) 27 1 (.val (.ref x) :: L) (.ref x :: S) k n H Q := W_s (rfl : (pj lw).1 27 0 = some (.aload_n 0, 1, 0)) rfl rfl rfl
theorem w27_1 {a : Nat} : W (pj lw) 27 1 L (.ref a :: S) k n H Q ↔ (isO H a = true ∧ W (pj lw) 27 4 L (fld H a 7 :: S) k n H Q) := W_getf (rfl : (pj lw).1 27 1 = some (.getfield 81, 3, 7))
theorem w27_4 {x : Int32} : W (pj lw) 27 4 L (.int x :: S) k n H Q ↔ (if x < 0 then W (pj lw) 27 25 L S k n H Q else W (pj lw) 27 7 L S k n H Q) := W_if_lt (rfl : (pj lw).1 27 4 = some (.ifCond .lt 21, 3, 0)) rfl
theorem w27_7 {x : Nat} : W (pj lw) 27 7 (.val (.ref x) :: L) S k n H Q ↔ W (pj lw) 27 8 (.val (.ref x) :: L) (.ref x :: S) k n H Q := W_s (rfl : (pj lw).1 27 7 = some (.aload_n 0, 1, 0)) rfl rfl rfl
theorem w27_8 {a : Nat} : W (pj lw) 27 8 L (.ref a :: S) k n H Q ↔ (isO H a = true ∧ W (pj lw) 27 11 L (fld H a 7 :: S) k n H Q) := W_getf (rfl : (pj lw).1 27 8 = some (.getfield 81, 3, 7))
theorem w27_11 {x : Nat} : W (pj lw) 27 11 (.val (.ref x) :: L) S k n H Q ↔ W (pj lw) 27 12 (.val (.ref x) :: L) (.ref x :: S) k n H Q := W_s (rfl : (pj lw).1 27 11 = some (.aload_n 0, 1, 0)) rfl rfl rfl
theorem w27_12 {a : Nat} : W (pj lw) 27 12 L (.ref a :: S) k n H Q ↔ (isO H a = true ∧ W (pj lw) 27 15 L (fld H a 0 :: S) k n H Q) := W_getf (rfl : (pj lw).1 27 12 = some (.getfield 64, 3, 0))
theorem w27_15 {x y : Int32} : W (pj lw) 27 15 L (.int y :: .int x :: S) k n H Q ↔ (if x < y then W (pj lw) 27 18 L S k n H Q else W (pj lw) 27 25 L S k n H Q) := W_icmp_ge (rfl : (pj lw).1 27 15 = some (.if_icmp .ge 10, 3, 0)) rfl
theorem w27_18 {x : Nat} : W (pj lw) 27 18 (.val (.ref x) :: L) S k n H Q ↔ W (pj lw) 27 19 (.val (.ref x) :: L) (.ref x :: S) k n H Q := W_s (rfl : (pj lw).1 27 18 = some (.aload_n 0, 1, 0)) rfl rfl rfl
theorem w27_19 {a : Nat} : W (pj lw) 27 19 L (.ref a :: S) k n H Q ↔ (isO H a = true ∧ W (pj lw) 27 22 L (fld H a 22 :: S) k n H Q) := W_getf (rfl : (pj lw).1 27 19 = some (.getfield 115, 3, 22))
theorem w27_22 {x : Int32} : W (pj lw) 27 22 L (.int x :: S) k n H Q ↔ (if x = 0 then W (pj lw) 27 25 L S k n H Q else W (pj lw) 27 26 L S k n H Q) := W_if_ne (rfl : (pj lw).1 27 22 = some (.ifCond .ne 4, 3, 0)) rfl
theorem w27_25 : W (pj lw) 27 25 L [] k n H Q ↔ Q none H := W_r (rfl : (pj lw).1 27 25 = some (.return_, 1, 0)) rfl
theorem w27_26 {x : Nat} : W (pj lw) 27 26 (.val (.ref x) :: L) S k n H Q ↔ W (pj lw) 27 27 (.val (.ref x) :: L) (.ref x :: S) k n H Q := W_s (rfl : (pj lw).1 27 26 = some (.aload_n 0, 1, 0)) rfl rfl rfl
theorem w27_27 {a : Nat} : W (pj lw) 27 27 L (.ref a :: S) k n H Q ↔ (isO H a = true ∧ W (pj lw) 27 30 L (fld H a 23 :: S) k n H Q) := W_getf (rfl : (pj lw).1 27 27 = some (.getfield 13, 3, 23))
theorem w27_30 {x : Nat} : W (pj lw) 27 30 (.val (.ref x) :: L) S k n H Q ↔ W (pj lw) 27 31 (.val (.ref x) :: L) (.ref x :: S) k n H Q := W_s (rfl : (pj lw).1 27 30 = some (.aload_n 0, 1, 0)) rfl rfl rfl
theorem w27_31 {a : Nat} : W (pj lw) 27 31 L (.ref a :: S) k n H Q ↔ (isO H a = true ∧ W (pj lw) 27 34 L (fld H a 7 :: S) k n H Q) := W_getf (rfl : (pj lw).1 27 31 = some (.getfield 81, 3, 7))
theorem w27_34 {i : Int32} {a : Nat} : W (pj lw) 27 34 L (.int i :: .ref a :: S) k n H Q ↔ ((inA H a .byte i = true ∨ inA H a .boolean i = true) ∧ W (pj lw) 27 35 L (elt H a i :: S) k n H Q) := W_baload (rfl : (pj lw).1 27 34 = some (.baload, 1, 0))
theorem w27_35 {x : Int32} : W (pj lw) 27 35 L (.int x :: S) k n H Q ↔ (if x = 0 then W (pj lw) 27 39 L S k n H Q else W (pj lw) 27 38 L S k n H Q) := W_if_eq (rfl : (pj lw).1 27 35 = some (.ifCond .eq 4, 3, 0)) rfl
theorem w27_38 : W (pj lw) 27 38 L [] k n H Q ↔ Q none H := W_r (rfl : (pj lw).1 27 38 = some (.return_, 1, 0)) rfl
theorem w27_39 {x : Nat} : W (pj lw) 27 39 (.val (.ref x) :: L) S k n H Q ↔ W (pj lw) 27 40 (.val (.ref x) :: L) (.ref x :: S) k n H Q := W_s (rfl : (pj lw).1 27 39 = some (.aload_n 0, 1, 0)) rfl rfl rfl
theorem w27_40 : W (pj lw) 27 40 L S k n H Q ↔ W (pj lw) 27 41 L (.int 0 :: S) k n H Q := W_s (rfl : (pj lw).1 27 40 = some (.iconst 0, 1, 0)) rfl rfl rfl
theorem w27_41 {x : Nat} : W (pj lw) 27 41 (.val (.ref x) :: L) S k n H Q ↔ W (pj lw) 27 42 (.val (.ref x) :: L) (.ref x :: S) k n H Q := W_s (rfl : (pj lw).1 27 41 = some (.aload_n 0, 1, 0)) rfl rfl rfl
theorem w27_42 {a : Nat} : W (pj lw) 27 42 L (.ref a :: S) k n H Q ↔ (isO H a = true ∧ W (pj lw) 27 45 L (fld H a 7 :: S) k n H Q) := W_getf (rfl : (pj lw).1 27 42 = some (.getfield 81, 3, 7))
theorem w27_45 {a : Nat} {x0 : Int32} {x1 : Int32} : W (pj lw) 27 45 L (.int x1 :: .int x0 :: .ref a :: S) k n H Q ↔ ((isO H a = true ∧ cs S + (6 + 11) + 14 ≤ 31) ∧ Cl (pj lw) 16 [.ref a, .int x0, .int x1] H (fun v H => W (pj lw) 27 48 L (v.toList ++ S) k n H Q)) := W_inst (as := [.int x0, .int x1]) (rfl : (pj lw).1 27 45 = some (.invokevirtual 165, 3, 16)) rfl rfl rfl (Nat.le_of_ble_eq_true rfl) (Nat.le_of_ble_eq_true rfl) ⟨rfl, rfl⟩
theorem w27_48 {x : Int32} : W (pj lw) 27 48 L (.int x :: S) k n H Q ↔ (if x = 0 then W (pj lw) 27 51 L S k n H Q else W (pj lw) 27 52 L S k n H Q) := W_if_ne (rfl : (pj lw).1 27 48 = some (.ifCond .ne 4, 3, 0)) rfl
theorem w27_51 : W (pj lw) 27 51 L [] k n H Q ↔ Q none H := W_r (rfl : (pj lw).1 27 51 = some (.return_, 1, 0)) rfl
theorem w27_52 {x : Nat} : W (pj lw) 27 52 (.val (.ref x) :: L) S k n H Q ↔ W (pj lw) 27 53 (.val (.ref x) :: L) (.ref x :: S) k n H Q := W_s (rfl : (pj lw).1 27 52 = some (.aload_n 0, 1, 0)) rfl rfl rfl
theorem w27_53 {a : Nat} : W (pj lw) 27 53 L (.ref a :: S) k n H Q ↔ (isO H a = true ∧ W (pj lw) 27 56 L (fld H a 20 :: S) k n H Q) := W_getf (rfl : (pj lw).1 27 53 = some (.getfield 7, 3, 20))
theorem w27_56 {x : Nat} : W (pj lw) 27 56 (.val (.ref x) :: L) S k n H Q ↔ W (pj lw) 27 57 (.val (.ref x) :: L) (.ref x :: S) k n H Q := W_s (rfl : (pj lw).1 27 56 = some (.aload_n 0, 1, 0)) rfl rfl rfl
theorem w27_57 {a : Nat} : W (pj lw) 27 57 L (.ref a :: S) k n H Q ↔ (isO H a = true ∧ W (pj lw) 27 60 L (fld H a 21 :: S) k n H Q) := W_getf (rfl : (pj lw).1 27 57 = some (.getfield 118, 3, 21))
theorem w27_60 {i : Int32} {a : Nat} : W (pj lw) 27 60 L (.int i :: .ref a :: S) k n H Q ↔ ((inA H a .byte i = true ∨ inA H a .boolean i = true) ∧ W (pj lw) 27 61 L (elt H a i :: S) k n H Q) := W_baload (rfl : (pj lw).1 27 60 = some (.baload, 1, 0))
theorem w27_61 {x : Int32} {l0 : Slot} : W (pj lw) 27 61 (l0 :: .unset :: L) (.int x :: S) k n H Q ↔ W (pj lw) 27 62 (l0 :: .val (.int x) :: L) S k n H Q := W_istn (rfl : (pj lw).1 27 61 = some (.istore_n 1, 1, 0)) rfl rfl
theorem w27_62 {x : Nat} : W (pj lw) 27 62 (.val (.ref x) :: L) S k n H Q ↔ W (pj lw) 27 63 (.val (.ref x) :: L) (.ref x :: S) k n H Q := W_s (rfl : (pj lw).1 27 62 = some (.aload_n 0, 1, 0)) rfl rfl rfl
theorem w27_63 {x : Nat} : W (pj lw) 27 63 (.val (.ref x) :: L) S k n H Q ↔ W (pj lw) 27 64 (.val (.ref x) :: L) (.ref x :: S) k n H Q := W_s (rfl : (pj lw).1 27 63 = some (.aload_n 0, 1, 0)) rfl rfl rfl
theorem w27_64 {a : Nat} : W (pj lw) 27 64 L (.ref a :: S) k n H Q ↔ (isO H a = true ∧ W (pj lw) 27 67 L (fld H a 21 :: S) k n H Q) := W_getf (rfl : (pj lw).1 27 64 = some (.getfield 118, 3, 21))
theorem w27_67 : W (pj lw) 27 67 L S k n H Q ↔ W (pj lw) 27 68 L (.int 1 :: S) k n H Q := W_s (rfl : (pj lw).1 27 67 = some (.iconst 1, 1, 0)) rfl rfl rfl
theorem w27_68 {x y : Int32} : W (pj lw) 27 68 L (.int y :: .int x :: S) k n H Q ↔ W (pj lw) 27 69 L (.int (x + y) :: S) k n H Q := W_s (rfl : (pj lw).1 27 68 = some (.iadd, 1, 0)) rfl rfl rfl
theorem w27_69 : W (pj lw) 27 69 L S k n H Q ↔ W (pj lw) 27 71 L (.int 16 :: S) k n H Q := W_s (rfl : (pj lw).1 27 69 = some (.bipush 16, 2, 0)) rfl rfl rfl
theorem w27_71 {x y : Int32} : W (pj lw) 27 71 L (.int y :: .int x :: S) k n H Q ↔ (¬ y = 0 ∧ W (pj lw) 27 72 L (.int (x % y) :: S) k n H Q) := W_irem (rfl : (pj lw).1 27 71 = some (.irem, 1, 0))
theorem w27_72 {a : Nat} {v : Value} : W (pj lw) 27 72 L (v :: .ref a :: S) k n H Q ↔ ((isOw H a = true ∧ okv (.int) v = true) ∧ W (pj lw) 27 75 L S k n (wr H a 21 v) Q) := W_putf (rfl : (pj lw).1 27 72 = some (.putfield 118, 3, 21))
theorem w27_75 {x : Nat} : W (pj lw) 27 75 (.val (.ref x) :: L) S k n H Q ↔ W (pj lw) 27 76 (.val (.ref x) :: L) (.ref x :: S) k n H Q := W_s (rfl : (pj lw).1 27 75 = some (.aload_n 0, 1, 0)) rfl rfl rfl
theorem w27_76 {x : Nat} : W (pj lw) 27 76 L (.ref x :: S) k n H Q ↔ W (pj lw) 27 77 L (.ref x :: .ref x :: S) k n H Q := W_s (rfl : (pj lw).1 27 76 = some (.dup, 1, 0)) rfl rfl rfl
theorem w27_77 {a : Nat} : W (pj lw) 27 77 L (.ref a :: S) k n H Q ↔ (isO H a = true ∧ W (pj lw) 27 80 L (fld H a 22 :: S) k n H Q) := W_getf (rfl : (pj lw).1 27 77 = some (.getfield 115, 3, 22))
theorem w27_80 : W (pj lw) 27 80 L S k n H Q ↔ W (pj lw) 27 81 L (.int 1 :: S) k n H Q := W_s (rfl : (pj lw).1 27 80 = some (.iconst 1, 1, 0)) rfl rfl rfl
theorem w27_81 {x y : Int32} : W (pj lw) 27 81 L (.int y :: .int x :: S) k n H Q ↔ W (pj lw) 27 82 L (.int (x - y) :: S) k n H Q := W_s (rfl : (pj lw).1 27 81 = some (.isub, 1, 0)) rfl rfl rfl
theorem w27_82 {a : Nat} {v : Value} : W (pj lw) 27 82 L (v :: .ref a :: S) k n H Q ↔ ((isOw H a = true ∧ okv (.int) v = true) ∧ W (pj lw) 27 85 L S k n (wr H a 22 v) Q) := W_putf (rfl : (pj lw).1 27 82 = some (.putfield 115, 3, 22))
theorem w27_85 {x : Nat} : W (pj lw) 27 85 (.val (.ref x) :: L) S k n H Q ↔ W (pj lw) 27 86 (.val (.ref x) :: L) (.ref x :: S) k n H Q := W_s (rfl : (pj lw).1 27 85 = some (.aload_n 0, 1, 0)) rfl rfl rfl
theorem w27_86 {x : Nat} : W (pj lw) 27 86 (.val (.ref x) :: L) S k n H Q ↔ W (pj lw) 27 87 (.val (.ref x) :: L) (.ref x :: S) k n H Q := W_s (rfl : (pj lw).1 27 86 = some (.aload_n 0, 1, 0)) rfl rfl rfl
theorem w27_87 {a : Nat} : W (pj lw) 27 87 L (.ref a :: S) k n H Q ↔ (isO H a = true ∧ W (pj lw) 27 90 L (fld H a 7 :: S) k n H Q) := W_getf (rfl : (pj lw).1 27 87 = some (.getfield 81, 3, 7))
theorem w27_90 : W (pj lw) 27 90 L S k n H Q ↔ W (pj lw) 27 91 L (.int 0 :: S) k n H Q := W_s (rfl : (pj lw).1 27 90 = some (.iconst 0, 1, 0)) rfl rfl rfl
theorem w27_91 {x : Int32} {l0 : Slot} : W (pj lw) 27 91 (l0 :: .val (.int x) :: L) S k n H Q ↔ W (pj lw) 27 92 (l0 :: .val (.int x) :: L) (.int x :: S) k n H Q := W_s (rfl : (pj lw).1 27 91 = some (.iload_n 1, 1, 0)) rfl rfl rfl
theorem w27_92 {a : Nat} {x0 : Int32} {x1 : Int32} {x2 : Int32} : W (pj lw) 27 92 L (.int x2 :: .int x1 :: .int x0 :: .ref a :: S) k n H Q ↔ ((isO H a = true ∧ cs S + (4 + 11) + 0 ≤ 31) ∧ Cl (pj lw) 6 [.ref a, .int x0, .int x1, .int x2] H (fun v H => W (pj lw) 27 95 L (v.toList ++ S) k n H Q)) := W_inst (as := [.int x0, .int x1, .int x2]) (rfl : (pj lw).1 27 92 = some (.invokevirtual 104, 3, 6)) rfl rfl rfl (Nat.le_of_ble_eq_true rfl) (Nat.le_of_ble_eq_true rfl) ⟨rfl, rfl⟩
theorem w27_95 {x : Nat} : W (pj lw) 27 95 (.val (.ref x) :: L) S k n H Q ↔ W (pj lw) 27 96 (.val (.ref x) :: L) (.ref x :: S) k n H Q := W_s (rfl : (pj lw).1 27 95 = some (.aload_n 0, 1, 0)) rfl rfl rfl
theorem w27_96 {x : Nat} : W (pj lw) 27 96 L (.ref x :: S) k n H Q ↔ W (pj lw) 27 97 L (.ref x :: .ref x :: S) k n H Q := W_s (rfl : (pj lw).1 27 96 = some (.dup, 1, 0)) rfl rfl rfl
theorem w27_97 {a : Nat} : W (pj lw) 27 97 L (.ref a :: S) k n H Q ↔ (isO H a = true ∧ W (pj lw) 27 100 L (fld H a 19 :: S) k n H Q) := W_getf (rfl : (pj lw).1 27 97 = some (.getfield 203, 3, 19))
theorem w27_100 : W (pj lw) 27 100 L S k n H Q ↔ W (pj lw) 27 101 L (.long 1 :: S) k n H Q := W_s (rfl : (pj lw).1 27 100 = some (.lconst 1, 1, 0)) rfl rfl rfl
theorem w27_101 {x y : Int64} : W (pj lw) 27 101 L (.long y :: .long x :: S) k n H Q ↔ W (pj lw) 27 102 L (.long (x + y) :: S) k n H Q := W_s (rfl : (pj lw).1 27 101 = some (.ladd, 1, 0)) rfl rfl rfl
theorem w27_102 {a : Nat} {v : Value} : W (pj lw) 27 102 L (v :: .ref a :: S) k n H Q ↔ ((isOw H a = true ∧ okv (.long) v = true) ∧ W (pj lw) 27 105 L S k n (wr H a 19 v) Q) := W_putf (rfl : (pj lw).1 27 102 = some (.putfield 203, 3, 19))
theorem w27_105 : W (pj lw) 27 105 L [] k n H Q ↔ Q none H := W_r (rfl : (pj lw).1 27 105 = some (.return_, 1, 0)) rfl
theorem c28 {x0 : Nat} : Cl (pj lw) 28 [.ref x0] H Q ↔ W (pj lw) 28 0 [.val (.ref x0), .unset, .unset, .unset, .unset] [] 0 0 H Q := cl_unf rfl
theorem w28_0 : W (pj lw) 28 0 L S k n H Q ↔ W (pj lw) 28 1 L (.int 0 :: S) k n H Q := W_s (rfl : (pj lw).1 28 0 = some (.iconst 0, 1, 0)) rfl rfl rfl
theorem w28_1 {x : Int32} {l0 : Slot} : W (pj lw) 28 1 (l0 :: .unset :: L) (.int x :: S) k n H Q ↔ W (pj lw) 28 2 (l0 :: .val (.int x) :: L) S k n H Q := W_istn (rfl : (pj lw).1 28 1 = some (.istore_n 1, 1, 0)) rfl rfl
theorem w28_2 {x : Int32} {l0 : Slot} : W (pj lw) 28 2 (l0 :: .val (.int x) :: L) S k n H Q ↔ W (pj lw) 28 3 (l0 :: .val (.int x) :: L) (.int x :: S) k n H Q := W_s (rfl : (pj lw).1 28 2 = some (.iload_n 1, 1, 0)) rfl rfl rfl
theorem w28_3 : W (pj lw) 28 3 L S k n H Q ↔ W (pj lw) 28 4 L (.int 4 :: S) k n H Q := W_s (rfl : (pj lw).1 28 3 = some (.iconst 4, 1, 0)) rfl rfl rfl
theorem w28_4 {x y : Int32} : W (pj lw) 28 4 L (.int y :: .int x :: S) k n H Q ↔ (if x < y then W (pj lw) 28 7 L S k n H Q else W (pj lw) 28 107 L S k n H Q) := W_icmp_ge (rfl : (pj lw).1 28 4 = some (.if_icmp .ge 103, 3, 0)) rfl
theorem w28_7 {x : Nat} : W (pj lw) 28 7 (.val (.ref x) :: L) S k n H Q ↔ W (pj lw) 28 8 (.val (.ref x) :: L) (.ref x :: S) k n H Q := W_s (rfl : (pj lw).1 28 7 = some (.aload_n 0, 1, 0)) rfl rfl rfl
theorem w28_8 {a : Nat} : W (pj lw) 28 8 L (.ref a :: S) k n H Q ↔ (isO H a = true ∧ W (pj lw) 28 11 L (fld H a 33 :: S) k n H Q) := W_getf (rfl : (pj lw).1 28 8 = some (.getfield 44, 3, 33))
theorem w28_11 {x : Int32} {l0 : Slot} : W (pj lw) 28 11 (l0 :: .val (.int x) :: L) S k n H Q ↔ W (pj lw) 28 12 (l0 :: .val (.int x) :: L) (.int x :: S) k n H Q := W_s (rfl : (pj lw).1 28 11 = some (.iload_n 1, 1, 0)) rfl rfl rfl
theorem w28_12 {i : Int32} {a : Nat} : W (pj lw) 28 12 L (.int i :: .ref a :: S) k n H Q ↔ (inA H a .int i = true ∧ W (pj lw) 28 13 L (elt H a i :: S) k n H Q) := W_iaload (rfl : (pj lw).1 28 12 = some (.iaload, 1, 0))
theorem w28_13i {y : Int32} {x : Int32} {l0 l1 : Slot} : W (pj lw) 28 13 (l0 :: l1 :: .val (.int y) :: L) (.int x :: S) k n H Q ↔ W (pj lw) 28 14 (l0 :: l1 :: .val (.int x) :: L) S k n H Q := W_istn (rfl : (pj lw).1 28 13 = some (.istore_n 2, 1, 0)) rfl rfl
theorem w28_13 {x : Int32} {l0 l1 : Slot} : W (pj lw) 28 13 (l0 :: l1 :: .unset :: L) (.int x :: S) k n H Q ↔ W (pj lw) 28 14 (l0 :: l1 :: .val (.int x) :: L) S k n H Q := W_istn (rfl : (pj lw).1 28 13 = some (.istore_n 2, 1, 0)) rfl rfl
theorem w28_14 {x : Int32} {l0 l1 : Slot} : W (pj lw) 28 14 (l0 :: l1 :: .val (.int x) :: L) S k n H Q ↔ W (pj lw) 28 15 (l0 :: l1 :: .val (.int x) :: L) (.int x :: S) k n H Q := W_s (rfl : (pj lw).1 28 14 = some (.iload_n 2, 1, 0)) rfl rfl rfl
theorem w28_15 {x : Int32} : W (pj lw) 28 15 L (.int x :: S) k n H Q ↔ (if x < 0 then W (pj lw) 28 101 L S k n H Q else W (pj lw) 28 18 L S k n H Q) := W_if_lt (rfl : (pj lw).1 28 15 = some (.ifCond .lt 86, 3, 0)) rfl
theorem w28_18 {x : Int32} {l0 l1 : Slot} : W (pj lw) 28 18 (l0 :: l1 :: .val (.int x) :: L) S k n H Q ↔ W (pj lw) 28 19 (l0 :: l1 :: .val (.int x) :: L) (.int x :: S) k n H Q := W_s (rfl : (pj lw).1 28 18 = some (.iload_n 2, 1, 0)) rfl rfl rfl
theorem w28_19 {x : Nat} : W (pj lw) 28 19 (.val (.ref x) :: L) S k n H Q ↔ W (pj lw) 28 20 (.val (.ref x) :: L) (.ref x :: S) k n H Q := W_s (rfl : (pj lw).1 28 19 = some (.aload_n 0, 1, 0)) rfl rfl rfl
theorem w28_20 {a : Nat} : W (pj lw) 28 20 L (.ref a :: S) k n H Q ↔ (isO H a = true ∧ W (pj lw) 28 23 L (fld H a 0 :: S) k n H Q) := W_getf (rfl : (pj lw).1 28 20 = some (.getfield 64, 3, 0))
theorem w28_23 {x y : Int32} : W (pj lw) 28 23 L (.int y :: .int x :: S) k n H Q ↔ (if x < y then W (pj lw) 28 29 L S k n H Q else W (pj lw) 28 26 L S k n H Q) := W_icmp_lt (rfl : (pj lw).1 28 23 = some (.if_icmp .lt 6, 3, 0)) rfl
theorem w28_26 : W (pj lw) 28 26 L S k n H Q ↔ W (pj lw) 28 101 L S k n H Q := W_goto (rfl : (pj lw).1 28 26 = some (.goto 75, 3, 0)) rfl
theorem w28_29 : W (pj lw) 28 29 L S k n H Q ↔ W (pj lw) 28 30 L (.int 0 :: S) k n H Q := W_s (rfl : (pj lw).1 28 29 = some (.iconst 0, 1, 0)) rfl rfl rfl
theorem w28_30i {y : Int32} {x : Int32} {l0 l1 l2 : Slot} : W (pj lw) 28 30 (l0 :: l1 :: l2 :: .val (.int y) :: L) (.int x :: S) k n H Q ↔ W (pj lw) 28 31 (l0 :: l1 :: l2 :: .val (.int x) :: L) S k n H Q := W_istn (rfl : (pj lw).1 28 30 = some (.istore_n 3, 1, 0)) rfl rfl
theorem w28_30 {x : Int32} {l0 l1 l2 : Slot} : W (pj lw) 28 30 (l0 :: l1 :: l2 :: .unset :: L) (.int x :: S) k n H Q ↔ W (pj lw) 28 31 (l0 :: l1 :: l2 :: .val (.int x) :: L) S k n H Q := W_istn (rfl : (pj lw).1 28 30 = some (.istore_n 3, 1, 0)) rfl rfl
theorem w28_31 {x : Int32} {l0 l1 l2 : Slot} : W (pj lw) 28 31 (l0 :: l1 :: l2 :: .val (.int x) :: L) S k n H Q ↔ W (pj lw) 28 32 (l0 :: l1 :: l2 :: .val (.int x) :: L) (.int x :: S) k n H Q := W_s (rfl : (pj lw).1 28 31 = some (.iload_n 3, 1, 0)) rfl rfl rfl
theorem w28_32 {x : Nat} : W (pj lw) 28 32 (.val (.ref x) :: L) S k n H Q ↔ W (pj lw) 28 33 (.val (.ref x) :: L) (.ref x :: S) k n H Q := W_s (rfl : (pj lw).1 28 32 = some (.aload_n 0, 1, 0)) rfl rfl rfl
theorem w28_33 {a : Nat} : W (pj lw) 28 33 L (.ref a :: S) k n H Q ↔ (isO H a = true ∧ W (pj lw) 28 36 L (fld H a 1 :: S) k n H Q) := W_getf (rfl : (pj lw).1 28 33 = some (.getfield 68, 3, 1))
theorem w28_36 {x y : Int32} : W (pj lw) 28 36 L (.int y :: .int x :: S) k n H Q ↔ (if x < y then W (pj lw) 28 39 L S k n H Q else W (pj lw) 28 91 L S k n H Q) := W_icmp_ge (rfl : (pj lw).1 28 36 = some (.if_icmp .ge 55, 3, 0)) rfl
theorem w28_39 {x : Int32} {l0 l1 l2 : Slot} : W (pj lw) 28 39 (l0 :: l1 :: l2 :: .val (.int x) :: L) S k n H Q ↔ W (pj lw) 28 40 (l0 :: l1 :: l2 :: .val (.int x) :: L) (.int x :: S) k n H Q := W_s (rfl : (pj lw).1 28 39 = some (.iload_n 3, 1, 0)) rfl rfl rfl
theorem w28_40 : W (pj lw) 28 40 L S k n H Q ↔ W (pj lw) 28 43 L (.int 128 :: S) k n H Q := W_s (rfl : (pj lw).1 28 40 = some (.sipush 128, 3, 0)) rfl rfl rfl
theorem w28_43 {x y : Int32} : W (pj lw) 28 43 L (.int y :: .int x :: S) k n H Q ↔ W (pj lw) 28 44 L (.int (x * y) :: S) k n H Q := W_s (rfl : (pj lw).1 28 43 = some (.imul, 1, 0)) rfl rfl rfl
theorem w28_44 {x : Int32} {l0 l1 : Slot} : W (pj lw) 28 44 (l0 :: l1 :: .val (.int x) :: L) S k n H Q ↔ W (pj lw) 28 45 (l0 :: l1 :: .val (.int x) :: L) (.int x :: S) k n H Q := W_s (rfl : (pj lw).1 28 44 = some (.iload_n 2, 1, 0)) rfl rfl rfl
theorem w28_45 {x y : Int32} : W (pj lw) 28 45 L (.int y :: .int x :: S) k n H Q ↔ W (pj lw) 28 46 L (.int (x + y) :: S) k n H Q := W_s (rfl : (pj lw).1 28 45 = some (.iadd, 1, 0)) rfl rfl rfl
theorem w28_46i {y : Int32} {x : Int32} {l0 l1 l2 l3 : Slot} : W (pj lw) 28 46 (l0 :: l1 :: l2 :: l3 :: .val (.int y) :: L) (.int x :: S) k n H Q ↔ W (pj lw) 28 48 (l0 :: l1 :: l2 :: l3 :: .val (.int x) :: L) S k n H Q := W_ist (rfl : (pj lw).1 28 46 = some (.istore 4, 2, 0)) rfl rfl
theorem w28_46 {x : Int32} {l0 l1 l2 l3 : Slot} : W (pj lw) 28 46 (l0 :: l1 :: l2 :: l3 :: .unset :: L) (.int x :: S) k n H Q ↔ W (pj lw) 28 48 (l0 :: l1 :: l2 :: l3 :: .val (.int x) :: L) S k n H Q := W_ist (rfl : (pj lw).1 28 46 = some (.istore 4, 2, 0)) rfl rfl
theorem w28_48 {x : Nat} : W (pj lw) 28 48 (.val (.ref x) :: L) S k n H Q ↔ W (pj lw) 28 49 (.val (.ref x) :: L) (.ref x :: S) k n H Q := W_s (rfl : (pj lw).1 28 48 = some (.aload_n 0, 1, 0)) rfl rfl rfl
theorem w28_49 {a : Nat} : W (pj lw) 28 49 L (.ref a :: S) k n H Q ↔ (isO H a = true ∧ W (pj lw) 28 52 L (fld H a 23 :: S) k n H Q) := W_getf (rfl : (pj lw).1 28 49 = some (.getfield 13, 3, 23))
theorem w28_52 {x : Int32} {l0 l1 l2 l3 : Slot} : W (pj lw) 28 52 (l0 :: l1 :: l2 :: l3 :: .val (.int x) :: L) S k n H Q ↔ W (pj lw) 28 54 (l0 :: l1 :: l2 :: l3 :: .val (.int x) :: L) (.int x :: S) k n H Q := W_s (rfl : (pj lw).1 28 52 = some (.iload 4, 2, 0)) rfl rfl rfl
theorem w28_54 {i : Int32} {a : Nat} : W (pj lw) 28 54 L (.int i :: .ref a :: S) k n H Q ↔ ((inA H a .byte i = true ∨ inA H a .boolean i = true) ∧ W (pj lw) 28 55 L (elt H a i :: S) k n H Q) := W_baload (rfl : (pj lw).1 28 54 = some (.baload, 1, 0))
theorem w28_55 {x : Int32} : W (pj lw) 28 55 L (.int x :: S) k n H Q ↔ (if x = 0 then W (pj lw) 28 85 L S k n H Q else W (pj lw) 28 58 L S k n H Q) := W_if_eq (rfl : (pj lw).1 28 55 = some (.ifCond .eq 30, 3, 0)) rfl
theorem w28_58 {x : Nat} : W (pj lw) 28 58 (.val (.ref x) :: L) S k n H Q ↔ W (pj lw) 28 59 (.val (.ref x) :: L) (.ref x :: S) k n H Q := W_s (rfl : (pj lw).1 28 58 = some (.aload_n 0, 1, 0)) rfl rfl rfl
theorem w28_59 {a : Nat} : W (pj lw) 28 59 L (.ref a :: S) k n H Q ↔ (isO H a = true ∧ W (pj lw) 28 62 L (fld H a 35 :: S) k n H Q) := W_getf (rfl : (pj lw).1 28 59 = some (.getfield 51, 3, 35))
theorem w28_62 {x : Int32} {l0 : Slot} : W (pj lw) 28 62 (l0 :: .val (.int x) :: L) S k n H Q ↔ W (pj lw) 28 63 (l0 :: .val (.int x) :: L) (.int x :: S) k n H Q := W_s (rfl : (pj lw).1 28 62 = some (.iload_n 1, 1, 0)) rfl rfl rfl
theorem w28_63 {x : Int32} {y : Nat} : W (pj lw) 28 63 L (.int x :: .ref y :: S) k n H Q ↔ W (pj lw) 28 64 L (.int x :: .ref y :: .int x :: .ref y :: S) k n H Q := W_s (rfl : (pj lw).1 28 63 = some (.dup2, 1, 0)) rfl rfl rfl
theorem w28_64 {i : Int32} {a : Nat} : W (pj lw) 28 64 L (.int i :: .ref a :: S) k n H Q ↔ (inA H a .long i = true ∧ W (pj lw) 28 65 L (elt H a i :: S) k n H Q) := W_laload (rfl : (pj lw).1 28 64 = some (.laload, 1, 0))
theorem w28_65 : W (pj lw) 28 65 L S k n H Q ↔ W (pj lw) 28 66 L (.long 1 :: S) k n H Q := W_s (rfl : (pj lw).1 28 65 = some (.lconst 1, 1, 0)) rfl rfl rfl
theorem w28_66 {x y : Int64} : W (pj lw) 28 66 L (.long y :: .long x :: S) k n H Q ↔ W (pj lw) 28 67 L (.long (x + y) :: S) k n H Q := W_s (rfl : (pj lw).1 28 66 = some (.ladd, 1, 0)) rfl rfl rfl
theorem w28_67 {x : Int64} {i : Int32} {a : Nat} : W (pj lw) 28 67 L (.long x :: .int i :: .ref a :: S) k n H Q ↔ (inAw H a .long i = true ∧ W (pj lw) 28 68 L S k n (wr H a i.toNatClampNeg (.long x)) Q) := W_lastore (rfl : (pj lw).1 28 67 = some (.lastore, 1, 0))
theorem w28_68 {x : Nat} : W (pj lw) 28 68 (.val (.ref x) :: L) S k n H Q ↔ W (pj lw) 28 69 (.val (.ref x) :: L) (.ref x :: S) k n H Q := W_s (rfl : (pj lw).1 28 68 = some (.aload_n 0, 1, 0)) rfl rfl rfl
theorem w28_69 {a : Nat} : W (pj lw) 28 69 L (.ref a :: S) k n H Q ↔ (isO H a = true ∧ W (pj lw) 28 72 L (fld H a 36 :: S) k n H Q) := W_getf (rfl : (pj lw).1 28 69 = some (.getfield 54, 3, 36))
theorem w28_72 {x : Int32} {l0 : Slot} : W (pj lw) 28 72 (l0 :: .val (.int x) :: L) S k n H Q ↔ W (pj lw) 28 73 (l0 :: .val (.int x) :: L) (.int x :: S) k n H Q := W_s (rfl : (pj lw).1 28 72 = some (.iload_n 1, 1, 0)) rfl rfl rfl
theorem w28_73 {x : Int32} {y : Nat} : W (pj lw) 28 73 L (.int x :: .ref y :: S) k n H Q ↔ W (pj lw) 28 74 L (.int x :: .ref y :: .int x :: .ref y :: S) k n H Q := W_s (rfl : (pj lw).1 28 73 = some (.dup2, 1, 0)) rfl rfl rfl
theorem w28_74 {i : Int32} {a : Nat} : W (pj lw) 28 74 L (.int i :: .ref a :: S) k n H Q ↔ (inA H a .long i = true ∧ W (pj lw) 28 75 L (elt H a i :: S) k n H Q) := W_laload (rfl : (pj lw).1 28 74 = some (.laload, 1, 0))
theorem w28_75 {x : Nat} : W (pj lw) 28 75 (.val (.ref x) :: L) S k n H Q ↔ W (pj lw) 28 76 (.val (.ref x) :: L) (.ref x :: S) k n H Q := W_s (rfl : (pj lw).1 28 75 = some (.aload_n 0, 1, 0)) rfl rfl rfl
theorem w28_76 {a : Nat} : W (pj lw) 28 76 L (.ref a :: S) k n H Q ↔ (isO H a = true ∧ W (pj lw) 28 79 L (fld H a 24 :: S) k n H Q) := W_getf (rfl : (pj lw).1 28 76 = some (.getfield 16, 3, 24))
theorem w28_79 {x : Int32} {l0 l1 l2 l3 : Slot} : W (pj lw) 28 79 (l0 :: l1 :: l2 :: l3 :: .val (.int x) :: L) S k n H Q ↔ W (pj lw) 28 81 (l0 :: l1 :: l2 :: l3 :: .val (.int x) :: L) (.int x :: S) k n H Q := W_s (rfl : (pj lw).1 28 79 = some (.iload 4, 2, 0)) rfl rfl rfl
theorem w28_81 {i : Int32} {a : Nat} : W (pj lw) 28 81 L (.int i :: .ref a :: S) k n H Q ↔ (inA H a .int i = true ∧ W (pj lw) 28 82 L (elt H a i :: S) k n H Q) := W_iaload (rfl : (pj lw).1 28 81 = some (.iaload, 1, 0))
theorem w28_82 {x : Int32} : W (pj lw) 28 82 L (.int x :: S) k n H Q ↔ W (pj lw) 28 83 L (.long x.toInt64 :: S) k n H Q := W_s (rfl : (pj lw).1 28 82 = some (.i2l, 1, 0)) rfl rfl rfl
theorem w28_83 {x y : Int64} : W (pj lw) 28 83 L (.long y :: .long x :: S) k n H Q ↔ W (pj lw) 28 84 L (.long (x + y) :: S) k n H Q := W_s (rfl : (pj lw).1 28 83 = some (.ladd, 1, 0)) rfl rfl rfl
theorem w28_84 {x : Int64} {i : Int32} {a : Nat} : W (pj lw) 28 84 L (.long x :: .int i :: .ref a :: S) k n H Q ↔ (inAw H a .long i = true ∧ W (pj lw) 28 85 L S k n (wr H a i.toNatClampNeg (.long x)) Q) := W_lastore (rfl : (pj lw).1 28 84 = some (.lastore, 1, 0))
theorem w28_85 {x : Int32} {l0 l1 l2 : Slot} : W (pj lw) 28 85 (l0 :: l1 :: l2 :: .val (.int x) :: L) S k n H Q ↔ W (pj lw) 28 88 (l0 :: l1 :: l2 :: .val (.int (x + 1)) :: L) S k n H Q := W_s (rfl : (pj lw).1 28 85 = some (.iinc 3 1, 3, 0)) rfl rfl rfl
theorem w28_88 : W (pj lw) 28 88 L S k n H Q ↔ W (pj lw) 28 31 L S k n H Q := W_goto (rfl : (pj lw).1 28 88 = some (.goto (-57), 3, 0)) rfl
theorem w28_91 {x : Nat} : W (pj lw) 28 91 (.val (.ref x) :: L) S k n H Q ↔ W (pj lw) 28 92 (.val (.ref x) :: L) (.ref x :: S) k n H Q := W_s (rfl : (pj lw).1 28 91 = some (.aload_n 0, 1, 0)) rfl rfl rfl
theorem w28_92 {a : Nat} : W (pj lw) 28 92 L (.ref a :: S) k n H Q ↔ (isO H a = true ∧ W (pj lw) 28 95 L (fld H a 37 :: S) k n H Q) := W_getf (rfl : (pj lw).1 28 92 = some (.getfield 57, 3, 37))
theorem w28_95 {x : Int32} {l0 : Slot} : W (pj lw) 28 95 (l0 :: .val (.int x) :: L) S k n H Q ↔ W (pj lw) 28 96 (l0 :: .val (.int x) :: L) (.int x :: S) k n H Q := W_s (rfl : (pj lw).1 28 95 = some (.iload_n 1, 1, 0)) rfl rfl rfl
theorem w28_96 {x : Int32} {y : Nat} : W (pj lw) 28 96 L (.int x :: .ref y :: S) k n H Q ↔ W (pj lw) 28 97 L (.int x :: .ref y :: .int x :: .ref y :: S) k n H Q := W_s (rfl : (pj lw).1 28 96 = some (.dup2, 1, 0)) rfl rfl rfl
theorem w28_97 {i : Int32} {a : Nat} : W (pj lw) 28 97 L (.int i :: .ref a :: S) k n H Q ↔ (inA H a .long i = true ∧ W (pj lw) 28 98 L (elt H a i :: S) k n H Q) := W_laload (rfl : (pj lw).1 28 97 = some (.laload, 1, 0))
theorem w28_98 : W (pj lw) 28 98 L S k n H Q ↔ W (pj lw) 28 99 L (.long 1 :: S) k n H Q := W_s (rfl : (pj lw).1 28 98 = some (.lconst 1, 1, 0)) rfl rfl rfl
theorem w28_99 {x y : Int64} : W (pj lw) 28 99 L (.long y :: .long x :: S) k n H Q ↔ W (pj lw) 28 100 L (.long (x + y) :: S) k n H Q := W_s (rfl : (pj lw).1 28 99 = some (.ladd, 1, 0)) rfl rfl rfl
theorem w28_100 {x : Int64} {i : Int32} {a : Nat} : W (pj lw) 28 100 L (.long x :: .int i :: .ref a :: S) k n H Q ↔ (inAw H a .long i = true ∧ W (pj lw) 28 101 L S k n (wr H a i.toNatClampNeg (.long x)) Q) := W_lastore (rfl : (pj lw).1 28 100 = some (.lastore, 1, 0))
theorem w28_101 {x : Int32} {l0 : Slot} : W (pj lw) 28 101 (l0 :: .val (.int x) :: L) S k n H Q ↔ W (pj lw) 28 104 (l0 :: .val (.int (x + 1)) :: L) S k n H Q := W_s (rfl : (pj lw).1 28 101 = some (.iinc 1 1, 3, 0)) rfl rfl rfl
theorem w28_104 : W (pj lw) 28 104 L S k n H Q ↔ W (pj lw) 28 2 L S k n H Q := W_goto (rfl : (pj lw).1 28 104 = some (.goto (-102), 3, 0)) rfl
theorem w28_107 {x : Nat} : W (pj lw) 28 107 (.val (.ref x) :: L) S k n H Q ↔ W (pj lw) 28 108 (.val (.ref x) :: L) (.ref x :: S) k n H Q := W_s (rfl : (pj lw).1 28 107 = some (.aload_n 0, 1, 0)) rfl rfl rfl
theorem w28_108 {x : Nat} : W (pj lw) 28 108 L (.ref x :: S) k n H Q ↔ W (pj lw) 28 109 L (.ref x :: .ref x :: S) k n H Q := W_s (rfl : (pj lw).1 28 108 = some (.dup, 1, 0)) rfl rfl rfl
theorem w28_109 {a : Nat} : W (pj lw) 28 109 L (.ref a :: S) k n H Q ↔ (isO H a = true ∧ W (pj lw) 28 112 L (fld H a 15 :: S) k n H Q) := W_getf (rfl : (pj lw).1 28 109 = some (.getfield 206, 3, 15))
theorem w28_112 {x : Nat} : W (pj lw) 28 112 (.val (.ref x) :: L) S k n H Q ↔ W (pj lw) 28 113 (.val (.ref x) :: L) (.ref x :: S) k n H Q := W_s (rfl : (pj lw).1 28 112 = some (.aload_n 0, 1, 0)) rfl rfl rfl
theorem w28_113 {a : Nat} : W (pj lw) 28 113 L (.ref a :: S) k n H Q ↔ (isO H a = true ∧ W (pj lw) 28 116 L (fld H a 12 :: S) k n H Q) := W_getf (rfl : (pj lw).1 28 113 = some (.getfield 112, 3, 12))
theorem w28_116 {x : Int32} : W (pj lw) 28 116 L (.int x :: S) k n H Q ↔ W (pj lw) 28 117 L (.long x.toInt64 :: S) k n H Q := W_s (rfl : (pj lw).1 28 116 = some (.i2l, 1, 0)) rfl rfl rfl
theorem w28_117 {x y : Int64} : W (pj lw) 28 117 L (.long y :: .long x :: S) k n H Q ↔ W (pj lw) 28 118 L (.long (x + y) :: S) k n H Q := W_s (rfl : (pj lw).1 28 117 = some (.ladd, 1, 0)) rfl rfl rfl
theorem w28_118 {a : Nat} {v : Value} : W (pj lw) 28 118 L (v :: .ref a :: S) k n H Q ↔ ((isOw H a = true ∧ okv (.long) v = true) ∧ W (pj lw) 28 121 L S k n (wr H a 15 v) Q) := W_putf (rfl : (pj lw).1 28 118 = some (.putfield 206, 3, 15))
theorem w28_121 : W (pj lw) 28 121 L [] k n H Q ↔ Q none H := W_r (rfl : (pj lw).1 28 121 = some (.return_, 1, 0)) rfl
theorem c29 {x0 : Nat} {x1 : Int32} {x2 : Int32} : Cl (pj lw) 29 [.ref x0, .int x1, .int x2] H Q ↔ W (pj lw) 29 0 [.val (.ref x0), .val (.int x1), .val (.int x2)] [] 0 0 H Q := cl_unf rfl
theorem w29_0 {x : Int32} {l0 : Slot} : W (pj lw) 29 0 (l0 :: .val (.int x) :: L) S k n H Q ↔ W (pj lw) 29 1 (l0 :: .val (.int x) :: L) (.int x :: S) k n H Q := W_s (rfl : (pj lw).1 29 0 = some (.iload_n 1, 1, 0)) rfl rfl rfl
theorem w29_1 {x : Int32} : W (pj lw) 29 1 L (.int x :: S) k n H Q ↔ (if x < 0 then W (pj lw) 29 28 L S k n H Q else W (pj lw) 29 4 L S k n H Q) := W_if_lt (rfl : (pj lw).1 29 1 = some (.ifCond .lt 27, 3, 0)) rfl
theorem w29_4 {x : Int32} {l0 : Slot} : W (pj lw) 29 4 (l0 :: .val (.int x) :: L) S k n H Q ↔ W (pj lw) 29 5 (l0 :: .val (.int x) :: L) (.int x :: S) k n H Q := W_s (rfl : (pj lw).1 29 4 = some (.iload_n 1, 1, 0)) rfl rfl rfl
theorem w29_5 {x : Nat} : W (pj lw) 29 5 (.val (.ref x) :: L) S k n H Q ↔ W (pj lw) 29 6 (.val (.ref x) :: L) (.ref x :: S) k n H Q := W_s (rfl : (pj lw).1 29 5 = some (.aload_n 0, 1, 0)) rfl rfl rfl
theorem w29_6 {a : Nat} : W (pj lw) 29 6 L (.ref a :: S) k n H Q ↔ (isO H a = true ∧ W (pj lw) 29 9 L (fld H a 1 :: S) k n H Q) := W_getf (rfl : (pj lw).1 29 6 = some (.getfield 68, 3, 1))
theorem w29_9 {x y : Int32} : W (pj lw) 29 9 L (.int y :: .int x :: S) k n H Q ↔ (if x < y then W (pj lw) 29 12 L S k n H Q else W (pj lw) 29 28 L S k n H Q) := W_icmp_ge (rfl : (pj lw).1 29 9 = some (.if_icmp .ge 19, 3, 0)) rfl
theorem w29_12 {x : Int32} {l0 l1 : Slot} : W (pj lw) 29 12 (l0 :: l1 :: .val (.int x) :: L) S k n H Q ↔ W (pj lw) 29 13 (l0 :: l1 :: .val (.int x) :: L) (.int x :: S) k n H Q := W_s (rfl : (pj lw).1 29 12 = some (.iload_n 2, 1, 0)) rfl rfl rfl
theorem w29_13 {x : Int32} : W (pj lw) 29 13 L (.int x :: S) k n H Q ↔ (if x < 0 then W (pj lw) 29 28 L S k n H Q else W (pj lw) 29 16 L S k n H Q) := W_if_lt (rfl : (pj lw).1 29 13 = some (.ifCond .lt 15, 3, 0)) rfl
theorem w29_16 {x : Int32} {l0 l1 : Slot} : W (pj lw) 29 16 (l0 :: l1 :: .val (.int x) :: L) S k n H Q ↔ W (pj lw) 29 17 (l0 :: l1 :: .val (.int x) :: L) (.int x :: S) k n H Q := W_s (rfl : (pj lw).1 29 16 = some (.iload_n 2, 1, 0)) rfl rfl rfl
theorem w29_17 {x : Nat} : W (pj lw) 29 17 (.val (.ref x) :: L) S k n H Q ↔ W (pj lw) 29 18 (.val (.ref x) :: L) (.ref x :: S) k n H Q := W_s (rfl : (pj lw).1 29 17 = some (.aload_n 0, 1, 0)) rfl rfl rfl
theorem w29_18 {a : Nat} : W (pj lw) 29 18 L (.ref a :: S) k n H Q ↔ (isO H a = true ∧ W (pj lw) 29 21 L (fld H a 0 :: S) k n H Q) := W_getf (rfl : (pj lw).1 29 18 = some (.getfield 64, 3, 0))
theorem w29_21 {x y : Int32} : W (pj lw) 29 21 L (.int y :: .int x :: S) k n H Q ↔ (if x < y then W (pj lw) 29 24 L S k n H Q else W (pj lw) 29 28 L S k n H Q) := W_icmp_ge (rfl : (pj lw).1 29 21 = some (.if_icmp .ge 7, 3, 0)) rfl
theorem w29_24 : W (pj lw) 29 24 L S k n H Q ↔ W (pj lw) 29 25 L (.int 1 :: S) k n H Q := W_s (rfl : (pj lw).1 29 24 = some (.iconst 1, 1, 0)) rfl rfl rfl
theorem w29_25 : W (pj lw) 29 25 L S k n H Q ↔ W (pj lw) 29 29 L S k n H Q := W_goto (rfl : (pj lw).1 29 25 = some (.goto 4, 3, 0)) rfl
theorem w29_28 : W (pj lw) 29 28 L S k n H Q ↔ W (pj lw) 29 29 L (.int 0 :: S) k n H Q := W_s (rfl : (pj lw).1 29 28 = some (.iconst 0, 1, 0)) rfl rfl rfl
theorem w29_29 {x : Int32} : W (pj lw) 29 29 L (.int x :: S) k n H Q ↔ ((x = 0 ∨ x = 1) ∧ Q (some (.int x)) H) := W_rz (rfl : (pj lw).1 29 29 = some (.ireturn, 1, 0)) rfl
theorem c30 {x0 : Nat} {x1 : Int32} {x2 : Int32} : Cl (pj lw) 30 [.ref x0, .int x1, .int x2] H Q ↔ W (pj lw) 30 0 [.val (.ref x0), .val (.int x1), .val (.int x2), .unset] [] 0 0 H Q := cl_unf rfl
theorem w30_0 {x : Nat} : W (pj lw) 30 0 (.val (.ref x) :: L) S k n H Q ↔ W (pj lw) 30 1 (.val (.ref x) :: L) (.ref x :: S) k n H Q := W_s (rfl : (pj lw).1 30 0 = some (.aload_n 0, 1, 0)) rfl rfl rfl
theorem w30_1 {x : Int32} {l0 : Slot} : W (pj lw) 30 1 (l0 :: .val (.int x) :: L) S k n H Q ↔ W (pj lw) 30 2 (l0 :: .val (.int x) :: L) (.int x :: S) k n H Q := W_s (rfl : (pj lw).1 30 1 = some (.iload_n 1, 1, 0)) rfl rfl rfl
theorem w30_2 {x : Int32} {l0 l1 : Slot} : W (pj lw) 30 2 (l0 :: l1 :: .val (.int x) :: L) S k n H Q ↔ W (pj lw) 30 3 (l0 :: l1 :: .val (.int x) :: L) (.int x :: S) k n H Q := W_s (rfl : (pj lw).1 30 2 = some (.iload_n 2, 1, 0)) rfl rfl rfl
theorem w30_3 {a : Nat} {x0 : Int32} {x1 : Int32} : W (pj lw) 30 3 L (.int x1 :: .int x0 :: .ref a :: S) k n H Q ↔ ((isO H a = true ∧ cs S + (3 + 11) + 0 ≤ 14) ∧ Cl (pj lw) 29 [.ref a, .int x0, .int x1] H (fun v H => W (pj lw) 30 6 L (v.toList ++ S) k n H Q)) := W_inst (as := [.int x0, .int x1]) (rfl : (pj lw).1 30 3 = some (.invokevirtual 209, 3, 29)) rfl rfl rfl (Nat.le_of_ble_eq_true rfl) (Nat.le_of_ble_eq_true rfl) ⟨rfl, rfl⟩
theorem w30_6 {x : Int32} : W (pj lw) 30 6 L (.int x :: S) k n H Q ↔ (if x = 0 then W (pj lw) 30 9 L S k n H Q else W (pj lw) 30 11 L S k n H Q) := W_if_ne (rfl : (pj lw).1 30 6 = some (.ifCond .ne 5, 3, 0)) rfl
theorem w30_9 : W (pj lw) 30 9 L S k n H Q ↔ W (pj lw) 30 10 L (.int (-1) :: S) k n H Q := W_s (rfl : (pj lw).1 30 9 = some (.iconst (-1), 1, 0)) rfl rfl rfl
theorem w30_10 {x : Int32} : W (pj lw) 30 10 L (.int x :: S) k n H Q ↔ Q (some (.int x)) H := W_r (rfl : (pj lw).1 30 10 = some (.ireturn, 1, 0)) rfl
theorem w30_11 {x : Int32} {l0 : Slot} : W (pj lw) 30 11 (l0 :: .val (.int x) :: L) S k n H Q ↔ W (pj lw) 30 12 (l0 :: .val (.int x) :: L) (.int x :: S) k n H Q := W_s (rfl : (pj lw).1 30 11 = some (.iload_n 1, 1, 0)) rfl rfl rfl
theorem w30_12 : W (pj lw) 30 12 L S k n H Q ↔ W (pj lw) 30 15 L (.int 128 :: S) k n H Q := W_s (rfl : (pj lw).1 30 12 = some (.sipush 128, 3, 0)) rfl rfl rfl
theorem w30_15 {x y : Int32} : W (pj lw) 30 15 L (.int y :: .int x :: S) k n H Q ↔ W (pj lw) 30 16 L (.int (x * y) :: S) k n H Q := W_s (rfl : (pj lw).1 30 15 = some (.imul, 1, 0)) rfl rfl rfl
theorem w30_16 {x : Int32} {l0 l1 : Slot} : W (pj lw) 30 16 (l0 :: l1 :: .val (.int x) :: L) S k n H Q ↔ W (pj lw) 30 17 (l0 :: l1 :: .val (.int x) :: L) (.int x :: S) k n H Q := W_s (rfl : (pj lw).1 30 16 = some (.iload_n 2, 1, 0)) rfl rfl rfl
theorem w30_17 {x y : Int32} : W (pj lw) 30 17 L (.int y :: .int x :: S) k n H Q ↔ W (pj lw) 30 18 L (.int (x + y) :: S) k n H Q := W_s (rfl : (pj lw).1 30 17 = some (.iadd, 1, 0)) rfl rfl rfl
theorem w30_18 {x : Int32} {l0 l1 l2 : Slot} : W (pj lw) 30 18 (l0 :: l1 :: l2 :: .unset :: L) (.int x :: S) k n H Q ↔ W (pj lw) 30 19 (l0 :: l1 :: l2 :: .val (.int x) :: L) S k n H Q := W_istn (rfl : (pj lw).1 30 18 = some (.istore_n 3, 1, 0)) rfl rfl
theorem w30_19 {x : Nat} : W (pj lw) 30 19 (.val (.ref x) :: L) S k n H Q ↔ W (pj lw) 30 20 (.val (.ref x) :: L) (.ref x :: S) k n H Q := W_s (rfl : (pj lw).1 30 19 = some (.aload_n 0, 1, 0)) rfl rfl rfl
theorem w30_20 {a : Nat} : W (pj lw) 30 20 L (.ref a :: S) k n H Q ↔ (isO H a = true ∧ W (pj lw) 30 23 L (fld H a 23 :: S) k n H Q) := W_getf (rfl : (pj lw).1 30 20 = some (.getfield 13, 3, 23))
theorem w30_23 {x : Int32} {l0 l1 l2 : Slot} : W (pj lw) 30 23 (l0 :: l1 :: l2 :: .val (.int x) :: L) S k n H Q ↔ W (pj lw) 30 24 (l0 :: l1 :: l2 :: .val (.int x) :: L) (.int x :: S) k n H Q := W_s (rfl : (pj lw).1 30 23 = some (.iload_n 3, 1, 0)) rfl rfl rfl
theorem w30_24 {i : Int32} {a : Nat} : W (pj lw) 30 24 L (.int i :: .ref a :: S) k n H Q ↔ ((inA H a .byte i = true ∨ inA H a .boolean i = true) ∧ W (pj lw) 30 25 L (elt H a i :: S) k n H Q) := W_baload (rfl : (pj lw).1 30 24 = some (.baload, 1, 0))
theorem w30_25 {x : Int32} : W (pj lw) 30 25 L (.int x :: S) k n H Q ↔ (if x = 0 then W (pj lw) 30 37 L S k n H Q else W (pj lw) 30 28 L S k n H Q) := W_if_eq (rfl : (pj lw).1 30 25 = some (.ifCond .eq 12, 3, 0)) rfl
theorem w30_28 {x : Nat} : W (pj lw) 30 28 (.val (.ref x) :: L) S k n H Q ↔ W (pj lw) 30 29 (.val (.ref x) :: L) (.ref x :: S) k n H Q := W_s (rfl : (pj lw).1 30 28 = some (.aload_n 0, 1, 0)) rfl rfl rfl
theorem w30_29 {a : Nat} : W (pj lw) 30 29 L (.ref a :: S) k n H Q ↔ (isO H a = true ∧ W (pj lw) 30 32 L (fld H a 24 :: S) k n H Q) := W_getf (rfl : (pj lw).1 30 29 = some (.getfield 16, 3, 24))
theorem w30_32 {x : Int32} {l0 l1 l2 : Slot} : W (pj lw) 30 32 (l0 :: l1 :: l2 :: .val (.int x) :: L) S k n H Q ↔ W (pj lw) 30 33 (l0 :: l1 :: l2 :: .val (.int x) :: L) (.int x :: S) k n H Q := W_s (rfl : (pj lw).1 30 32 = some (.iload_n 3, 1, 0)) rfl rfl rfl
theorem w30_33 {i : Int32} {a : Nat} : W (pj lw) 30 33 L (.int i :: .ref a :: S) k n H Q ↔ (inA H a .int i = true ∧ W (pj lw) 30 34 L (elt H a i :: S) k n H Q) := W_iaload (rfl : (pj lw).1 30 33 = some (.iaload, 1, 0))
theorem w30_34 : W (pj lw) 30 34 L S k n H Q ↔ W (pj lw) 30 38 L S k n H Q := W_goto (rfl : (pj lw).1 30 34 = some (.goto 4, 3, 0)) rfl
theorem w30_37 : W (pj lw) 30 37 L S k n H Q ↔ W (pj lw) 30 38 L (.int (-1) :: S) k n H Q := W_s (rfl : (pj lw).1 30 37 = some (.iconst (-1), 1, 0)) rfl rfl rfl
theorem w30_38 {x : Int32} : W (pj lw) 30 38 L (.int x :: S) k n H Q ↔ Q (some (.int x)) H := W_r (rfl : (pj lw).1 30 38 = some (.ireturn, 1, 0)) rfl
theorem c31 {x0 : Nat} {x1 : Int32} {x2 : Int32} : Cl (pj lw) 31 [.ref x0, .int x1, .int x2] H Q ↔ W (pj lw) 31 0 [.val (.ref x0), .val (.int x1), .val (.int x2), .unset] [] 0 0 H Q := cl_unf rfl
theorem w31_0 {x : Nat} : W (pj lw) 31 0 (.val (.ref x) :: L) S k n H Q ↔ W (pj lw) 31 1 (.val (.ref x) :: L) (.ref x :: S) k n H Q := W_s (rfl : (pj lw).1 31 0 = some (.aload_n 0, 1, 0)) rfl rfl rfl
theorem w31_1 {x : Int32} {l0 : Slot} : W (pj lw) 31 1 (l0 :: .val (.int x) :: L) S k n H Q ↔ W (pj lw) 31 2 (l0 :: .val (.int x) :: L) (.int x :: S) k n H Q := W_s (rfl : (pj lw).1 31 1 = some (.iload_n 1, 1, 0)) rfl rfl rfl
theorem w31_2 {x : Int32} {l0 l1 : Slot} : W (pj lw) 31 2 (l0 :: l1 :: .val (.int x) :: L) S k n H Q ↔ W (pj lw) 31 3 (l0 :: l1 :: .val (.int x) :: L) (.int x :: S) k n H Q := W_s (rfl : (pj lw).1 31 2 = some (.iload_n 2, 1, 0)) rfl rfl rfl
theorem w31_3 {a : Nat} {x0 : Int32} {x1 : Int32} : W (pj lw) 31 3 L (.int x1 :: .int x0 :: .ref a :: S) k n H Q ↔ ((isO H a = true ∧ cs S + (3 + 11) + 0 ≤ 14) ∧ Cl (pj lw) 29 [.ref a, .int x0, .int x1] H (fun v H => W (pj lw) 31 6 L (v.toList ++ S) k n H Q)) := W_inst (as := [.int x0, .int x1]) (rfl : (pj lw).1 31 3 = some (.invokevirtual 209, 3, 29)) rfl rfl rfl (Nat.le_of_ble_eq_true rfl) (Nat.le_of_ble_eq_true rfl) ⟨rfl, rfl⟩
theorem w31_6 {x : Int32} : W (pj lw) 31 6 L (.int x :: S) k n H Q ↔ (if x = 0 then W (pj lw) 31 9 L S k n H Q else W (pj lw) 31 11 L S k n H Q) := W_if_ne (rfl : (pj lw).1 31 6 = some (.ifCond .ne 5, 3, 0)) rfl
theorem w31_9 : W (pj lw) 31 9 L S k n H Q ↔ W (pj lw) 31 10 L (.int (-1) :: S) k n H Q := W_s (rfl : (pj lw).1 31 9 = some (.iconst (-1), 1, 0)) rfl rfl rfl
theorem w31_10 {x : Int32} : W (pj lw) 31 10 L (.int x :: S) k n H Q ↔ Q (some (.int x)) H := W_r (rfl : (pj lw).1 31 10 = some (.ireturn, 1, 0)) rfl
theorem w31_11 {x : Int32} {l0 : Slot} : W (pj lw) 31 11 (l0 :: .val (.int x) :: L) S k n H Q ↔ W (pj lw) 31 12 (l0 :: .val (.int x) :: L) (.int x :: S) k n H Q := W_s (rfl : (pj lw).1 31 11 = some (.iload_n 1, 1, 0)) rfl rfl rfl
theorem w31_12 : W (pj lw) 31 12 L S k n H Q ↔ W (pj lw) 31 15 L (.int 128 :: S) k n H Q := W_s (rfl : (pj lw).1 31 12 = some (.sipush 128, 3, 0)) rfl rfl rfl
theorem w31_15 {x y : Int32} : W (pj lw) 31 15 L (.int y :: .int x :: S) k n H Q ↔ W (pj lw) 31 16 L (.int (x * y) :: S) k n H Q := W_s (rfl : (pj lw).1 31 15 = some (.imul, 1, 0)) rfl rfl rfl
theorem w31_16 {x : Int32} {l0 l1 : Slot} : W (pj lw) 31 16 (l0 :: l1 :: .val (.int x) :: L) S k n H Q ↔ W (pj lw) 31 17 (l0 :: l1 :: .val (.int x) :: L) (.int x :: S) k n H Q := W_s (rfl : (pj lw).1 31 16 = some (.iload_n 2, 1, 0)) rfl rfl rfl
theorem w31_17 {x y : Int32} : W (pj lw) 31 17 L (.int y :: .int x :: S) k n H Q ↔ W (pj lw) 31 18 L (.int (x + y) :: S) k n H Q := W_s (rfl : (pj lw).1 31 17 = some (.iadd, 1, 0)) rfl rfl rfl
theorem w31_18 {x : Int32} {l0 l1 l2 : Slot} : W (pj lw) 31 18 (l0 :: l1 :: l2 :: .unset :: L) (.int x :: S) k n H Q ↔ W (pj lw) 31 19 (l0 :: l1 :: l2 :: .val (.int x) :: L) S k n H Q := W_istn (rfl : (pj lw).1 31 18 = some (.istore_n 3, 1, 0)) rfl rfl
theorem w31_19 {x : Nat} : W (pj lw) 31 19 (.val (.ref x) :: L) S k n H Q ↔ W (pj lw) 31 20 (.val (.ref x) :: L) (.ref x :: S) k n H Q := W_s (rfl : (pj lw).1 31 19 = some (.aload_n 0, 1, 0)) rfl rfl rfl
theorem w31_20 {a : Nat} : W (pj lw) 31 20 L (.ref a :: S) k n H Q ↔ (isO H a = true ∧ W (pj lw) 31 23 L (fld H a 23 :: S) k n H Q) := W_getf (rfl : (pj lw).1 31 20 = some (.getfield 13, 3, 23))
theorem w31_23 {x : Int32} {l0 l1 l2 : Slot} : W (pj lw) 31 23 (l0 :: l1 :: l2 :: .val (.int x) :: L) S k n H Q ↔ W (pj lw) 31 24 (l0 :: l1 :: l2 :: .val (.int x) :: L) (.int x :: S) k n H Q := W_s (rfl : (pj lw).1 31 23 = some (.iload_n 3, 1, 0)) rfl rfl rfl
theorem w31_24 {i : Int32} {a : Nat} : W (pj lw) 31 24 L (.int i :: .ref a :: S) k n H Q ↔ ((inA H a .byte i = true ∨ inA H a .boolean i = true) ∧ W (pj lw) 31 25 L (elt H a i :: S) k n H Q) := W_baload (rfl : (pj lw).1 31 24 = some (.baload, 1, 0))
theorem w31_25 {x : Int32} : W (pj lw) 31 25 L (.int x :: S) k n H Q ↔ (if x = 0 then W (pj lw) 31 37 L S k n H Q else W (pj lw) 31 28 L S k n H Q) := W_if_eq (rfl : (pj lw).1 31 25 = some (.ifCond .eq 12, 3, 0)) rfl
theorem w31_28 {x : Nat} : W (pj lw) 31 28 (.val (.ref x) :: L) S k n H Q ↔ W (pj lw) 31 29 (.val (.ref x) :: L) (.ref x :: S) k n H Q := W_s (rfl : (pj lw).1 31 28 = some (.aload_n 0, 1, 0)) rfl rfl rfl
theorem w31_29 {a : Nat} : W (pj lw) 31 29 L (.ref a :: S) k n H Q ↔ (isO H a = true ∧ W (pj lw) 31 32 L (fld H a 25 :: S) k n H Q) := W_getf (rfl : (pj lw).1 31 29 = some (.getfield 20, 3, 25))
theorem w31_32 {x : Int32} {l0 l1 l2 : Slot} : W (pj lw) 31 32 (l0 :: l1 :: l2 :: .val (.int x) :: L) S k n H Q ↔ W (pj lw) 31 33 (l0 :: l1 :: l2 :: .val (.int x) :: L) (.int x :: S) k n H Q := W_s (rfl : (pj lw).1 31 32 = some (.iload_n 3, 1, 0)) rfl rfl rfl
theorem w31_33 {i : Int32} {a : Nat} : W (pj lw) 31 33 L (.int i :: .ref a :: S) k n H Q ↔ (inA H a .int i = true ∧ W (pj lw) 31 34 L (elt H a i :: S) k n H Q) := W_iaload (rfl : (pj lw).1 31 33 = some (.iaload, 1, 0))
theorem w31_34 : W (pj lw) 31 34 L S k n H Q ↔ W (pj lw) 31 38 L S k n H Q := W_goto (rfl : (pj lw).1 31 34 = some (.goto 4, 3, 0)) rfl
theorem w31_37 : W (pj lw) 31 37 L S k n H Q ↔ W (pj lw) 31 38 L (.int (-1) :: S) k n H Q := W_s (rfl : (pj lw).1 31 37 = some (.iconst (-1), 1, 0)) rfl rfl rfl
theorem w31_38 {x : Int32} : W (pj lw) 31 38 L (.int x :: S) k n H Q ↔ Q (some (.int x)) H := W_r (rfl : (pj lw).1 31 38 = some (.ireturn, 1, 0)) rfl
theorem c34 {x0 : Nat} {x1 : Int32} : Cl (pj lw) 34 [.ref x0, .int x1] H Q ↔ W (pj lw) 34 0 [.val (.ref x0), .val (.int x1)] [] 0 0 H Q := cl_unf rfl
theorem w34_0 {x : Int32} {l0 : Slot} : W (pj lw) 34 0 (l0 :: .val (.int x) :: L) S k n H Q ↔ W (pj lw) 34 1 (l0 :: .val (.int x) :: L) (.int x :: S) k n H Q := W_s (rfl : (pj lw).1 34 0 = some (.iload_n 1, 1, 0)) rfl rfl rfl
theorem w34_1 {x : Int32} : W (pj lw) 34 1 L (.int x :: S) k n H Q ↔ (if x = 0 then W (pj lw) 34 56 L S k n H Q else (if x = 1 then W (pj lw) 34 61 L S k n H Q else (if x = 2 then W (pj lw) 34 67 L S k n H Q else (if x = 3 then W (pj lw) 34 72 L S k n H Q else (if x = 4 then W (pj lw) 34 77 L S k n H Q else (if x = 5 then W (pj lw) 34 83 L S k n H Q else (if x = 6 then W (pj lw) 34 88 L S k n H Q else (if x = 7 then W (pj lw) 34 93 L S k n H Q else (if x = 8 then W (pj lw) 34 98 L S k n H Q else (if x = 9 then W (pj lw) 34 103 L S k n H Q else W (pj lw) 34 108 L S k n H Q)))))))))) := W_tsw (qs := [56, 61, 67, 72, 77, 83, 88, 93, 98, 103]) (rfl : (pj lw).1 34 1 = some (.tableswitch 107 0 9 #[55, 60, 66, 71, 76, 82, 87, 92, 97, 102], 55, 0)) rfl (by decide) (by decide)
theorem w34_56 {x : Nat} : W (pj lw) 34 56 (.val (.ref x) :: L) S k n H Q ↔ W (pj lw) 34 57 (.val (.ref x) :: L) (.ref x :: S) k n H Q := W_s (rfl : (pj lw).1 34 56 = some (.aload_n 0, 1, 0)) rfl rfl rfl
theorem w34_57 {a : Nat} : W (pj lw) 34 57 L (.ref a :: S) k n H Q ↔ (isO H a = true ∧ W (pj lw) 34 60 L (fld H a 11 :: S) k n H Q) := W_getf (rfl : (pj lw).1 34 57 = some (.getfield 147, 3, 11))
theorem w34_60 {x : Int64} : W (pj lw) 34 60 L (.long x :: S) k n H Q ↔ Q (some (.long x)) H := W_r (rfl : (pj lw).1 34 60 = some (.lreturn, 1, 0)) rfl
theorem w34_61 {x : Nat} : W (pj lw) 34 61 (.val (.ref x) :: L) S k n H Q ↔ W (pj lw) 34 62 (.val (.ref x) :: L) (.ref x :: S) k n H Q := W_s (rfl : (pj lw).1 34 61 = some (.aload_n 0, 1, 0)) rfl rfl rfl
theorem w34_62 {a : Nat} : W (pj lw) 34 62 L (.ref a :: S) k n H Q ↔ (isO H a = true ∧ W (pj lw) 34 65 L (fld H a 12 :: S) k n H Q) := W_getf (rfl : (pj lw).1 34 62 = some (.getfield 112, 3, 12))
theorem w34_65 {x : Int32} : W (pj lw) 34 65 L (.int x :: S) k n H Q ↔ W (pj lw) 34 66 L (.long x.toInt64 :: S) k n H Q := W_s (rfl : (pj lw).1 34 65 = some (.i2l, 1, 0)) rfl rfl rfl
theorem w34_66 {x : Int64} : W (pj lw) 34 66 L (.long x :: S) k n H Q ↔ Q (some (.long x)) H := W_r (rfl : (pj lw).1 34 66 = some (.lreturn, 1, 0)) rfl
theorem w34_67 {x : Nat} : W (pj lw) 34 67 (.val (.ref x) :: L) S k n H Q ↔ W (pj lw) 34 68 (.val (.ref x) :: L) (.ref x :: S) k n H Q := W_s (rfl : (pj lw).1 34 67 = some (.aload_n 0, 1, 0)) rfl rfl rfl
theorem w34_68 {a : Nat} : W (pj lw) 34 68 L (.ref a :: S) k n H Q ↔ (isO H a = true ∧ W (pj lw) 34 71 L (fld H a 13 :: S) k n H Q) := W_getf (rfl : (pj lw).1 34 68 = some (.getfield 108, 3, 13))
theorem w34_71 {x : Int64} : W (pj lw) 34 71 L (.long x :: S) k n H Q ↔ Q (some (.long x)) H := W_r (rfl : (pj lw).1 34 71 = some (.lreturn, 1, 0)) rfl
theorem w34_72 {x : Nat} : W (pj lw) 34 72 (.val (.ref x) :: L) S k n H Q ↔ W (pj lw) 34 73 (.val (.ref x) :: L) (.ref x :: S) k n H Q := W_s (rfl : (pj lw).1 34 72 = some (.aload_n 0, 1, 0)) rfl rfl rfl
theorem w34_73 {a : Nat} : W (pj lw) 34 73 L (.ref a :: S) k n H Q ↔ (isO H a = true ∧ W (pj lw) 34 76 L (fld H a 14 :: S) k n H Q) := W_getf (rfl : (pj lw).1 34 73 = some (.getfield 197, 3, 14))
theorem w34_76 {x : Int64} : W (pj lw) 34 76 L (.long x :: S) k n H Q ↔ Q (some (.long x)) H := W_r (rfl : (pj lw).1 34 76 = some (.lreturn, 1, 0)) rfl
theorem w34_77 {x : Nat} : W (pj lw) 34 77 (.val (.ref x) :: L) S k n H Q ↔ W (pj lw) 34 78 (.val (.ref x) :: L) (.ref x :: S) k n H Q := W_s (rfl : (pj lw).1 34 77 = some (.aload_n 0, 1, 0)) rfl rfl rfl
theorem w34_78 {a : Nat} : W (pj lw) 34 78 L (.ref a :: S) k n H Q ↔ (isO H a = true ∧ W (pj lw) 34 81 L (fld H a 22 :: S) k n H Q) := W_getf (rfl : (pj lw).1 34 78 = some (.getfield 115, 3, 22))
theorem w34_81 {x : Int32} : W (pj lw) 34 81 L (.int x :: S) k n H Q ↔ W (pj lw) 34 82 L (.long x.toInt64 :: S) k n H Q := W_s (rfl : (pj lw).1 34 81 = some (.i2l, 1, 0)) rfl rfl rfl
theorem w34_82 {x : Int64} : W (pj lw) 34 82 L (.long x :: S) k n H Q ↔ Q (some (.long x)) H := W_r (rfl : (pj lw).1 34 82 = some (.lreturn, 1, 0)) rfl
theorem w34_83 {x : Nat} : W (pj lw) 34 83 (.val (.ref x) :: L) S k n H Q ↔ W (pj lw) 34 84 (.val (.ref x) :: L) (.ref x :: S) k n H Q := W_s (rfl : (pj lw).1 34 83 = some (.aload_n 0, 1, 0)) rfl rfl rfl
theorem w34_84 {a : Nat} : W (pj lw) 34 84 L (.ref a :: S) k n H Q ↔ (isO H a = true ∧ W (pj lw) 34 87 L (fld H a 15 :: S) k n H Q) := W_getf (rfl : (pj lw).1 34 84 = some (.getfield 206, 3, 15))
theorem w34_87 {x : Int64} : W (pj lw) 34 87 L (.long x :: S) k n H Q ↔ Q (some (.long x)) H := W_r (rfl : (pj lw).1 34 87 = some (.lreturn, 1, 0)) rfl
theorem w34_88 {x : Nat} : W (pj lw) 34 88 (.val (.ref x) :: L) S k n H Q ↔ W (pj lw) 34 89 (.val (.ref x) :: L) (.ref x :: S) k n H Q := W_s (rfl : (pj lw).1 34 88 = some (.aload_n 0, 1, 0)) rfl rfl rfl
theorem w34_89 {a : Nat} : W (pj lw) 34 89 L (.ref a :: S) k n H Q ↔ (isO H a = true ∧ W (pj lw) 34 92 L (fld H a 16 :: S) k n H Q) := W_getf (rfl : (pj lw).1 34 89 = some (.getfield 188, 3, 16))
theorem w34_92 {x : Int64} : W (pj lw) 34 92 L (.long x :: S) k n H Q ↔ Q (some (.long x)) H := W_r (rfl : (pj lw).1 34 92 = some (.lreturn, 1, 0)) rfl
theorem w34_93 {x : Nat} : W (pj lw) 34 93 (.val (.ref x) :: L) S k n H Q ↔ W (pj lw) 34 94 (.val (.ref x) :: L) (.ref x :: S) k n H Q := W_s (rfl : (pj lw).1 34 93 = some (.aload_n 0, 1, 0)) rfl rfl rfl
theorem w34_94 {a : Nat} : W (pj lw) 34 94 L (.ref a :: S) k n H Q ↔ (isO H a = true ∧ W (pj lw) 34 97 L (fld H a 17 :: S) k n H Q) := W_getf (rfl : (pj lw).1 34 94 = some (.getfield 175, 3, 17))
theorem w34_97 {x : Int64} : W (pj lw) 34 97 L (.long x :: S) k n H Q ↔ Q (some (.long x)) H := W_r (rfl : (pj lw).1 34 97 = some (.lreturn, 1, 0)) rfl
theorem w34_98 {x : Nat} : W (pj lw) 34 98 (.val (.ref x) :: L) S k n H Q ↔ W (pj lw) 34 99 (.val (.ref x) :: L) (.ref x :: S) k n H Q := W_s (rfl : (pj lw).1 34 98 = some (.aload_n 0, 1, 0)) rfl rfl rfl
theorem w34_99 {a : Nat} : W (pj lw) 34 99 L (.ref a :: S) k n H Q ↔ (isO H a = true ∧ W (pj lw) 34 102 L (fld H a 18 :: S) k n H Q) := W_getf (rfl : (pj lw).1 34 99 = some (.getfield 200, 3, 18))
theorem w34_102 {x : Int64} : W (pj lw) 34 102 L (.long x :: S) k n H Q ↔ Q (some (.long x)) H := W_r (rfl : (pj lw).1 34 102 = some (.lreturn, 1, 0)) rfl
theorem w34_103 {x : Nat} : W (pj lw) 34 103 (.val (.ref x) :: L) S k n H Q ↔ W (pj lw) 34 104 (.val (.ref x) :: L) (.ref x :: S) k n H Q := W_s (rfl : (pj lw).1 34 103 = some (.aload_n 0, 1, 0)) rfl rfl rfl
theorem w34_104 {a : Nat} : W (pj lw) 34 104 L (.ref a :: S) k n H Q ↔ (isO H a = true ∧ W (pj lw) 34 107 L (fld H a 19 :: S) k n H Q) := W_getf (rfl : (pj lw).1 34 104 = some (.getfield 203, 3, 19))
theorem w34_107 {x : Int64} : W (pj lw) 34 107 L (.long x :: S) k n H Q ↔ Q (some (.long x)) H := W_r (rfl : (pj lw).1 34 107 = some (.lreturn, 1, 0)) rfl
theorem w34_108 : W (pj lw) 34 108 L S k n H Q ↔ W (pj lw) 34 111 L (.long (-1) :: S) k n H Q := W_s (rfl : (pj lw).1 34 108 = some (.ldc2_w 212, 3, (-1))) rfl rfl rfl
theorem w34_111 {x : Int64} : W (pj lw) 34 111 L (.long x :: S) k n H Q ↔ Q (some (.long x)) H := W_r (rfl : (pj lw).1 34 111 = some (.lreturn, 1, 0)) rfl
end Pc
section A
variable {lw : LW} {H : AH} {p j : Nat} {s : St} {Q : Option Value → AH → Prop} {a b c d : Int32} {h : Nat → Cel}
theorem t11 : Cl (pj lw) 11 [.ref p, .int a, .int b, .int c] H Q ↔ Q (some (.int (cl b c a))) H := by
  rw [c11]
  by_cases h1 : a < b <;> by_cases h2 : c < a <;> simp +decide only [w11_0, w11_1, w11_2, w11_5, w11_6, w11_7, w11_8, w11_9, w11_12, w11_13, w11_14, w11_15, ↓reduceIte, h1, h2, cl]
def ini0 (a b c d : Int32) : St := uA (uA (uA (uA (uI (uI (uI (uI (uI (uI (uI z0 0 (cl 8 128 a)) 1 (cl 2 3 b)) 2 (cl 1 5 c)) 3 (cl 0 65535 d)) 4 (-1)) 7 (-1)) 8 (-1)) 12 0 (-1)) 12 1 (-1)) 12 2 (-1)) 12 3 (-1)
set_option maxRecDepth 100000 in
theorem t1 : Cl (pj lw) 1 [.ref p, .int a, .int b, .int c, .int d] (put lay 0 (p + 1, h) p z0) Q ↔ Q none (ob (p + 17, h) p (ini0 a b c d)) := by
  rw [c1]; simp +decide only [w1_0, w1_1, w1_4, w1_5, w1_7, w1_9, w1_12, w1_13, w1_16, w1_18, w1_21, w1_22, w1_25, w1_27, w1_30, w1_31, w1_34, w1_36, w1_39, w1_40, w1_43, w1_45, w1_48, w1_49, w1_52, w1_54, w1_57, w1_58, w1_61, w1_63, w1_66, w1_67, w1_70, w1_72, w1_75, w1_76, w1_79, w1_81, w1_84, w1_85, w1_88, w1_90, w1_93, w1_94, w1_97, w1_99, w1_102, w1_103, w1_104, w1_106, w1_109, w1_110, w1_111, w1_113, w1_116, w1_117, w1_118, w1_120, w1_123, w1_124, w1_125, w1_127, w1_130, w1_131, w1_132, w1_134, w1_137, w1_138, w1_139, w1_140, w1_142, w1_145, w1_148, w1_151, w1_152, w1_153, w1_154, w1_155, w1_156, w1_159, w1_162, w1_163, w1_164, w1_165, w1_166, w1_167, w1_170, w1_173, w1_174, w1_175, w1_177, w1_178, w1_180, w1_183, w1_186, w1_187, w1_188, w1_191, w1_192, w1_193, w1_196, w1_197, w1_198, w1_201, w1_202, w1_206, w1_207, w1_210, w1_211, w1_214, w1_216, w1_217, w1_218, w1_221, w1_224, w1_204, zr_z0, isO_put, isOw_put, put_fst, okv_int, okv_ref, cs_nil, cs_ref, Option.toList_some, List.cons_append, List.nil_append, true_and, and_true, ↓reduceIte, Nat.reduceAdd, Int32.reduceAdd, Int32.reduceToNatClampNeg, Int64.reduceAdd, Nat.add_zero, Nat.zero_add, Nat.le_refl, s0, s1, s2, s3, s4, s7, s8, g33, aw12, as12, mk1, io1, mk2, io2, mk3, io3, mk4, io4, mk5, io5, mk6, io6, mk7, io7, mk8, io8, mk9, io9, mk10, io10, mk11, io11, mk12, io12, mk13, io13, mk14, io14, mk15, io15, mk16, io16, t11, ini0]
end A

section B
variable {lw : LW} {H : AH} {p j : Nat} {s s' : St} {Q : Option Value → AH → Prop} {a b c d : Int32} {h : Nat → Cel} {k n : Nat}
def bz (x : Bool) : Int32 := if x = true then 1 else 0
theorem bz_t : bz true = 1 := rfl
theorem bz_f : bz false = 0 := rfl
theorem bz01 (x : Bool) : bz x = 0 ∨ bz x = 1 := by cases x; exact Or.inl rfl; exact Or.inr rfl
def b01 (x : Int32) : Prop := x = 0 ∨ x = 1
def vr (s : St) (x : Int32) : Prop := 0 ≤ x.toInt ∧ x.toInt ≤ (sI s 2).toInt
def Ev (s : St) : Prop := (8 ≤ (sI s 0).toInt ∧ (sI s 0).toInt ≤ 128) ∧ (2 ≤ (sI s 1).toInt ∧ (sI s 1).toInt ≤ 3) ∧ (1 ≤ (sI s 2).toInt ∧ (sI s 2).toInt ≤ 5) ∧ (0 ≤ (sI s 21).toInt ∧ (sI s 21).toInt < 16) ∧ (0 ≤ (sI s 22).toInt ∧ (sI s 22).toInt ≤ 16) ∧ (∀ t i, (t = 1 ∨ t = 5 ∨ t = 6 ∨ t = 9) → b01 (sA s t i)) ∧ (∀ t i, (t = 3 ∨ t = 7 ∨ t = 11) → vr s (sA s t i))
theorem Ev_uJ {x : Nat} {v : Int64} (h : Ev s) : Ev (uJ s x v) := by unfold Ev vr at *; simp only [sI_uJ, sA_uJ]; exact h
theorem Ev_uB {t i : Nat} {v : Int64} (h : Ev s) : Ev (uB s t i v) := by unfold Ev vr at *; simp only [sI_uB, sA_uB]; exact h
theorem Ev_uI {x : Nat} {v : Int32} (h : Ev s) (hx : x ≠ 0 ∧ x ≠ 1 ∧ x ≠ 2 ∧ x ≠ 21 ∧ x ≠ 22) : Ev (uI s x v) := by
  have e : ∀ y, (y = 0 ∨ y = 1 ∨ y = 2 ∨ y = 21 ∨ y = 22) → sI (uI s x v) y = sI s y := fun y hy => by rw [sI_uI, if_neg (by omega)]
  unfold Ev vr at *; simp only [sA_uI, e 0 (by simp), e 1 (by simp), e 2 (by simp), e 21 (by simp), e 22 (by simp)]; exact h
theorem Ev_uA {t i : Nat} {v : Int32} (h : Ev s) (h1 : (t = 1 ∨ t = 5 ∨ t = 6 ∨ t = 9) → b01 v) (h2 : (t = 3 ∨ t = 7 ∨ t = 11) → vr s v) : Ev (uA s t i v) := by
  unfold Ev vr at *; simp only [sI_uA, sA_uA]
  refine ⟨h.1, h.2.1, h.2.2.1, h.2.2.2.1, h.2.2.2.2.1, fun t' i' ht => ?_, fun t' i' ht => ?_⟩
  · by_cases e : t' = t ∧ i' = i
    · rw [if_pos e]; exact h1 (by rw [← e.1]; exact ht)
    · rw [if_neg e]; exact h.2.2.2.2.2.1 t' i' ht
  · by_cases e : t' = t ∧ i' = i
    · rw [if_pos e]; exact h2 (by rw [← e.1]; exact ht)
    · rw [if_neg e]; exact h.2.2.2.2.2.2 t' i' ht
theorem Ev_q {x y : Int32} (h : Ev s) (hx : 0 ≤ x.toInt ∧ x.toInt < 16) (hy : 0 ≤ y.toInt ∧ y.toInt ≤ 16) : Ev (uI (uI s 21 x) 22 y) := by
  unfold Ev vr at *; simp +decide only [sI_uI, sA_uI, ↓reduceIte]; exact ⟨h.1, h.2.1, h.2.2.1, hx, hy, h.2.2.2.2.2⟩
theorem Evb {t i : Nat} (h : Ev s) (ht : t = 1 ∨ t = 5 ∨ t = 6 ∨ t = 9) : b01 (sA s t i) := h.2.2.2.2.2.1 t i ht
theorem Evv {t i : Nat} (h : Ev s) (ht : t = 3 ∨ t = 7 ∨ t = 11) : vr s (sA s t i) := h.2.2.2.2.2.2 t i ht
theorem Ev.n0 (h : Ev s) : ¬ sI s 0 = 0 := by rw [eq32]; simp only [Int32.reduceToInt]; have := h.1; omega
theorem ixr (ha : 0 ≤ a.toInt ∧ a.toInt < 3) (hb : 0 ≤ b.toInt ∧ b.toInt < 128) : (a * 128 + b).toInt = a.toInt * 128 + b.toInt ∧ 0 ≤ (a * 128 + b).toInt ∧ (a * 128 + b).toInt < 384 := by
  have e := idx2 (u := a) (v := b) (a := 3) (b := 128) 128 (by decide) ha hb (by decide) (by decide)
  simp only [Int32.reduceToInt] at e
  rw [e]; omega
def wrp (s : St) (x : Int32) : Int32 := if x % sI s 0 < 0 then x % sI s 0 + sI s 0 else x % sI s 0
theorem t12 (h0 : ¬ sI s 0 = 0) : Cl (pj lw) 12 [.ref p, .int a] (ob H p s) Q ↔ Q (some (.int (wrp s a))) (ob H p s) := by
  rw [c12]; unfold wrp
  by_cases e : a % sI s 0 < 0 <;> simp +decide only [w12_0, w12_1, w12_2, w12_5, w12_6, w12_7, w12_8, w12_11, w12_12, w12_13, w12_16, w12_17i, w12_18, w12_19, isO_put, true_and, not_false_eq_true, ↓reduceIte, g0, h0, e]
def drw (s : St) : Int32 := sI s 3 * 1103515245 + 12345
def drv (s : St) : Int32 := Jvm.Free.XT.ushr (drw s) 16 &&& 32767
theorem t13 : Cl (pj lw) 13 [.ref p] (ob H p s) Q ↔ Q (some (.int (drv s))) (ob H p (uI s 3 (drw s))) := by
  rw [c13]; unfold drv drw
  simp +decide only [w13_0, w13_1, w13_2, w13_5, w13_7, w13_8, w13_11, w13_12, w13_15, w13_16, w13_19, w13_21, w13_22, w13_25, w13_26, isO_put, isOw_put, okv_int, sI_uI, true_and, and_true, ↓reduceIte, g3, s3]
theorem rem_rg' {x y : Int32} (hy : 0 < y.toInt) : -y.toInt < (x % y).toInt ∧ (x % y).toInt < y.toInt ∧ (x % y).toInt = x.toInt.tmod y.toInt := by
  have e : (x % y).toInt = x.toInt.tmod y.toInt := Int32.toInt_mod ..
  rw [e]
  have h1 := Int.tmod_lt_of_pos x.toInt hy
  have h2 := Int.lt_tmod_of_pos x.toInt hy
  omega
theorem wrp_rg (hE : Ev s) : 0 ≤ (wrp s a).toInt ∧ (wrp s a).toInt < (sI s 0).toInt := by
  have hb := hE.1
  obtain ⟨h1, h2, -⟩ := rem_rg' (x := a) (y := sI s 0) (by omega)
  unfold wrp
  by_cases e : a % sI s 0 < 0
  · rw [if_pos e]
    rw [lt32] at e; simp only [Int32.reduceToInt] at e
    rw [ia (by omega) (by omega)]; omega
  · rw [if_neg e]
    rw [lt32] at e; simp only [Int32.reduceToInt] at e; omega
def occ (s : St) (l c : Int32) : Bool := decide (¬ sA s 2 (l * 128 + c).toNatClampNeg = 0)
def blk' (s : St) (l c : Int32) : Bool := occ s l c || decide (¬ sI s 10 = 0 ∧ c = sI s 4)
theorem t14 (h1 : 0 ≤ (a * 128 + b).toInt ∧ (a * 128 + b).toInt < 384) : Cl (pj lw) 14 [.ref p, .int a, .int b] (ob H p s) Q ↔ Q (some (.int (bz (blk' s a b)))) (ob H p s) := by
  rw [c14]; unfold blk' occ
  rcases Classical.propComplete (sA s 2 (a * 128 + b).toNatClampNeg = 0) with e1 | e1 <;> rcases Classical.propComplete (sI s 10 = 0) with e2 | e2 <;> rcases Classical.propComplete (b = sI s 4) with e3 | e3 <;>
  simp +decide only [w14_0, w14_1, w14_4, w14_5, w14_8, w14_9, w14_10, w14_11, w14_12, w14_15, w14_16, w14_17, w14_18, w14_21, w14_24, w14_25, w14_26, w14_29, w14_32, w14_33, w14_36, w14_37, isO_put, true_and, and_true, and_false, or_false, or_true, not_true_eq_false, not_false_eq_true, ↓reduceIte, g4, g10, g23, ai2, ain2, ae2, ain2, h1, e1, e2, e3, bz_t, bz_f, decide_true, decide_false, Bool.or_true, Bool.or_false, and_self]
def gpF (s : St) (l p : Int32) : Nat → Int32 → Int32 → Int32
  | 0, _, g => g
  | m + 1, k, g => if blk' s l (wrp s (p + k)) = true then g else gpF s l p m (k + 1) k
def gp (s : St) (l p : Int32) : Int32 := gpF s l p (sI s 2).toInt.toNat 1 0
theorem l15 (hE : Ev s) (ha : 0 ≤ a.toInt ∧ a.toInt < 3) (m : Nat) : ∀ (i g : Int32), i.toInt = (sI s 2).toInt + 1 - m → 0 ≤ i.toInt → ∀ l5 : Slot, (l5 = .unset ∨ ∃ v, l5 = .val (.int v)) →
    (W (pj lw) 15 5 [.val (.ref p), .val (.int a), .val (.int b), .val (.int g), .val (.int i), l5] [] k n (ob H p s) Q ↔ Q (some (.int (gpF s a b m i g))) (ob H p s)) := by
  have hb := hE.2.2.1
  induction m with
  | zero =>
    intro i g hi h0 l5 hl
    have h1 : sI s 2 < i := by rw [lt32]; omega
    rw [w15_5]; simp +decide only [w15_7, w15_8, w15_11, w15_46, w15_47, isO_put, true_and, ↓reduceIte, g2, h1, gpF]
  | succ m ih =>
    intro i g hi h0 l5 hl
    have h1 : ¬ sI s 2 < i := by rw [lt32]; omega
    have h2 : (i + 1).toInt = i.toInt + 1 := ia (by simp only [Int32.reduceToInt]; omega) (by simp only [Int32.reduceToInt]; omega)
    have key := fun g v => ih (i + 1) g (by omega) (by omega) (.val (.int v)) (Or.inr ⟨v, rfl⟩)
    have hw := wrp_rg (a := b + i) hE
    have hx := (ixr ha (b := wrp s (b + i)) (by have := hE.1; omega)).2
    rw [gpF, w15_5]
    cases e : blk' s a (wrp s (b + i)) <;> rcases hl with rfl | ⟨v, rfl⟩ <;>
    simp +decide only [w15_7, w15_8, w15_11, w15_14, w15_15, w15_16, w15_18, w15_19, w15_22i, w15_22, w15_24, w15_25, w15_26, w15_28, w15_31, w15_34, w15_37, w15_39i, w15_40, w15_43, w15_46, w15_47, isO_put, Option.toList_some, List.cons_append, List.nil_append, true_and, and_true, ↓reduceIte, g2, h1, t12 hE.n0, t14 hx, e, key, bz_t, bz_f]
theorem t15 (hE : Ev s) (ha : 0 ≤ a.toInt ∧ a.toInt < 3) : Cl (pj lw) 15 [.ref p, .int a, .int b] (ob H p s) Q ↔ Q (some (.int (gp s a b))) (ob H p s) := by
  rw [c15]; simp +decide only [w15_0, w15_1, w15_2, w15_3]
  rw [l15 hE ha (sI s 2).toInt.toNat 1 0 (by simp only [Int32.reduceToInt]; have := hE.2.2.1; omega) (by decide) .unset (Or.inl rfl)]; rfl
def sbF (s : St) (l p : Int32) : Nat → Int32 → Bool
  | 0, _ => true
  | m + 1, k => if occ s l (wrp s (p - k)) = true then decide (sA s 3 (l * 128 + wrp s (p - k)).toNatClampNeg < k) else sbF s l p m (k + 1)
def sb (s : St) (l p : Int32) : Bool := sbF s l p (sI s 2).toInt.toNat 1
theorem l16 (hE : Ev s) (ha : 0 ≤ a.toInt ∧ a.toInt < 3) (m : Nat) : ∀ (i : Int32), i.toInt = (sI s 2).toInt + 1 - m → 0 ≤ i.toInt → ∀ l4 l5 : Slot, ((l4 = .unset ∧ l5 = .unset) ∨ ∃ u v, l4 = .val (.int u) ∧ l5 = .val (.int v)) →
    (W (pj lw) 16 2 [.val (.ref p), .val (.int a), .val (.int b), .val (.int i), l4, l5] [] k n (ob H p s) Q ↔ Q (some (.int (bz (sbF s a b m i)))) (ob H p s)) := by
  have hb := hE.2.2.1
  induction m with
  | zero =>
    intro i hi h0 l4 l5 hl
    have h1 : sI s 2 < i := by rw [lt32]; omega
    rw [w16_2]; simp +decide only [w16_3, w16_4, w16_7, w16_62, w16_63, isO_put, true_and, ↓reduceIte, g2, h1, sbF, bz_t]
  | succ m ih =>
    intro i hi h0 l4 l5 hl
    have h1 : ¬ sI s 2 < i := by rw [lt32]; omega
    have h2 : (i + 1).toInt = i.toInt + 1 := ia (by simp only [Int32.reduceToInt]; omega) (by simp only [Int32.reduceToInt]; omega)
    have key := fun u v => ih (i + 1) (by omega) (by omega) (.val (.int u)) (.val (.int v)) (Or.inr ⟨u, v, rfl, rfl⟩)
    have hw := wrp_rg (a := b - i) hE
    have hx := (ixr ha (b := wrp s (b - i)) (by have := hE.1; omega)).2
    rw [sbF, w16_2]; unfold occ
    rcases Classical.propComplete (sA s 2 (a * 128 + wrp s (b - i)).toNatClampNeg = 0) with e | e <;> rcases Classical.propComplete (sA s 3 (a * 128 + wrp s (b - i)).toNatClampNeg < i) with e2 | e2 <;> rcases hl with ⟨rfl, rfl⟩ | ⟨u, v, rfl, rfl⟩ <;>
    simp +decide only [w16_3, w16_4, w16_7, w16_10, w16_11, w16_12, w16_13, w16_14, w16_17i, w16_17, w16_19, w16_20, w16_23, w16_24, w16_26, w16_27i, w16_27, w16_29, w16_30, w16_33, w16_35, w16_36, w16_39, w16_40, w16_43, w16_45, w16_46, w16_47, w16_50, w16_51, w16_54, w16_55, w16_56, w16_59, isO_put, Option.toList_some, List.cons_append, List.nil_append, true_and, and_true, or_true, not_true_eq_false, not_false_eq_true, ↓reduceIte, g2, g23, g24, ai2, ain2, ae2, ai3, ae3, ain2, h1, t12 hE.n0, hx, e, e2, key, bz_t, bz_f, decide_true, decide_false]
theorem t16 (hE : Ev s) (ha : 0 ≤ a.toInt ∧ a.toInt < 3) : Cl (pj lw) 16 [.ref p, .int a, .int b] (ob H p s) Q ↔ Q (some (.int (bz (sb s a b)))) (ob H p s) := by
  rw [c16]; simp +decide only [w16_0, w16_1]
  rw [l16 hE ha (sI s 2).toInt.toNat 1 (by simp only [Int32.reduceToInt]; have := hE.2.2.1; omega) (by decide) .unset .unset (Or.inl ⟨rfl, rfl⟩)]; rfl
def cg (s : St) (m p own : Int32) : Int32 := if occ s m p = true then -1 else if own < gp s m p then (if sb s m p = true then gp s m p else -1) else -1
theorem t19 (hE : Ev s) (ha : 0 ≤ a.toInt ∧ a.toInt < 3) (hb : 0 ≤ b.toInt ∧ b.toInt < 128) : Cl (pj lw) 19 [.ref p, .int a, .int b, .int c] (ob H p s) Q ↔ Q (some (.int (cg s a b c))) (ob H p s) := by
  have hx := (ixr ha hb).2
  rw [c19]; unfold cg occ
  rcases Classical.propComplete (sA s 2 (a * 128 + b).toNatClampNeg = 0) with e | e <;> rcases Classical.propComplete (c < gp s a b) with e2 | e2 <;> cases e3 : sb s a b <;>
  simp +decide only [w19_0, w19_1, w19_4, w19_5, w19_8, w19_9, w19_10, w19_11, w19_12, w19_15, w19_16, w19_17, w19_18, w19_19, w19_20, w19_23, w19_25, w19_27, w19_28, w19_31, w19_32, w19_33, w19_34, w19_35, w19_36, w19_39, w19_42, w19_43, w19_44, w19_46, isO_put, Option.toList_some, List.cons_append, List.nil_append, true_and, and_true, or_true, not_true_eq_false, not_false_eq_true, ↓reduceIte, g23, ai2, ain2, ae2, ain2, t15 hE ha, t16 hE ha, hx, e, e2, e3, bz_t, bz_f, decide_true, decide_false]
def dlim (s : St) (i : Nat) : Int32 := if sI s 2 < sA s 3 i + 1 then sI s 2 else sA s 3 i + 1
def db1 (s : St) (l p own : Int32) : Int32 × Int32 := if 0 < l ∧ ¬ cg s (l - 1) p own < 0 then (l - 1, cg s (l - 1) p own) else (-1, -1)
def db2 (s : St) (l p own : Int32) (z : Int32 × Int32) : Int32 := if l + 1 < sI s 1 ∧ ¬ cg s (l + 1) p own < 0 ∧ z.2 < cg s (l + 1) p own then l + 1 else z.1
def dbest (s : St) (l p own : Int32) : Int32 := db2 s l p own (db1 s l p own)
def dcS (s : St) (l p : Int32) : St :=
  if sA s 5 (l * 128 + p).toNatClampNeg = 0 then
    (if gp s l p < dlim s (l * 128 + p).toNatClampNeg then uA s 10 (l * 128 + p).toNatClampNeg (dbest s l p (gp s l p)) else s)
  else (if 0 < l ∧ occ s (l - 1) p = false ∧ sb s (l - 1) p = true then uA s 10 (l * 128 + p).toNatClampNeg (l - 1) else s)
set_option maxHeartbeats 2000000 in
theorem t18 (hE : Ev s) (ha : 0 ≤ a.toInt ∧ a.toInt < (sI s 1).toInt) (hb : 0 ≤ b.toInt ∧ b.toInt < 128) : Cl (pj lw) 18 [.ref p, .int a, .int b] (ob H p s) Q ↔ Q none (ob H p (dcS s a b)) := by
  have hn := hE.2.1
  have hx := (ixr (a := a) (b := b) (by omega) hb).2
  have em : (a - 1).toInt = a.toInt - 1 := isb (by simp only [Int32.reduceToInt]; omega) (by simp only [Int32.reduceToInt]; omega)
  have ep : (a + 1).toInt = a.toInt + 1 := ia (by simp only [Int32.reduceToInt]; omega) (by simp only [Int32.reduceToInt]; omega)
  have ha' : 0 ≤ a.toInt ∧ a.toInt < 3 := by omega
  rw [c18]; unfold dcS
  by_cases e1 : sA s 5 (a * 128 + b).toNatClampNeg = 0
  · by_cases e2 : gp s a b < dlim s (a * 128 + b).toNatClampNeg
    · rw [if_pos e1, if_pos e2]
      have J : ∀ (x y : Int32), W (pj lw) 18 92 [.val (.ref p), .val (.int a), .val (.int b), .val (.int (a * 128 + b)), .val (.int (gp s a b)), .val (.int (dlim s (a * 128 + b).toNatClampNeg)), .unset, .unset, .unset] [] 0 0 (ob H p s) Q ↔ Q none (ob H p (uA s 10 (a * 128 + b).toNatClampNeg (dbest s a b (gp s a b)))) := by
        intro x y
        have J2 : ∀ (z : Int32 × Int32) (l8 : Slot), (l8 = .unset ∨ ∃ v, l8 = .val (.int v)) → (W (pj lw) 18 136 [.val (.ref p), .val (.int a), .val (.int b), .val (.int (a * 128 + b)), .val (.int (gp s a b)), .val (.int (dlim s (a * 128 + b).toNatClampNeg)), .val (.int z.1), .val (.int z.2), l8] [] 0 0 (ob H p s) Q ↔ Q none (ob H p (uA s 10 (a * 128 + b).toNatClampNeg (db2 s a b (gp s a b) z)))) := by
          intro z l8 hl; unfold db2
          by_cases u1 : a + 1 < sI s 1
          · have hc : 0 ≤ (a + 1).toInt ∧ (a + 1).toInt < 3 := by rw [lt32] at u1; omega
            by_cases u2 : cg s (a + 1) b (gp s a b) < 0
            · rcases hl with rfl | ⟨v, rfl⟩ <;> simp +decide only [w18_136, w18_137, w18_138, w18_139, w18_140, w18_143, w18_146, w18_147, w18_148, w18_149, w18_150, w18_151, w18_153, w18_156i, w18_156, w18_158, w18_160, w18_175, w18_176, w18_179, w18_180, w18_182, w18_183, isO_put, Option.toList_some, List.cons_append, List.nil_append, true_and, and_true, false_and, and_false, not_true_eq_false, ↓reduceIte, g1, g31, aw10, as10, hx, u1, u2, t19 hE hc hb]
            · by_cases u3 : z.2 < cg s (a + 1) b (gp s a b) <;> rcases hl with rfl | ⟨v, rfl⟩ <;> simp +decide only [w18_136, w18_137, w18_138, w18_139, w18_140, w18_143, w18_146, w18_147, w18_148, w18_149, w18_150, w18_151, w18_153, w18_156i, w18_156, w18_158, w18_160, w18_163, w18_165, w18_167, w18_170, w18_171, w18_172, w18_173i, w18_175, w18_176, w18_179, w18_180, w18_182, w18_183, isO_put, Option.toList_some, List.cons_append, List.nil_append, true_and, and_true, and_false, not_false_eq_true, ↓reduceIte, g1, g31, aw10, as10, hx, u1, u2, u3, t19 hE hc hb]
          · rcases hl with rfl | ⟨v, rfl⟩ <;> simp +decide only [w18_136, w18_137, w18_138, w18_139, w18_140, w18_143, w18_175, w18_176, w18_179, w18_180, w18_182, w18_183, isO_put, true_and, and_true, false_and, ↓reduceIte, g1, g31, aw10, as10, hx, u1]
        unfold dbest db1
        by_cases f1 : 0 < a
        · have hc : 0 ≤ (a - 1).toInt ∧ (a - 1).toInt < 3 := by rw [lt32] at f1; simp only [Int32.reduceToInt] at f1; omega
          by_cases f2 : cg s (a - 1) b (gp s a b) < 0
          · simp +decide only [w18_92, w18_94, w18_96, w18_100, w18_101, w18_103, w18_104, w18_106, w18_107, w18_110, w18_111, w18_112, w18_113, w18_114, w18_115, w18_117, w18_120, w18_122, w18_124, isO_put, Option.toList_some, List.cons_append, List.nil_append, true_and, and_true, and_false, not_true_eq_false, ↓reduceIte, e2, f1, f2, t19 hE hc hb]
            exact J2 (-1, -1) _ (Or.inr ⟨_, rfl⟩)
          · simp +decide only [w18_92, w18_94, w18_96, w18_100, w18_101, w18_103, w18_104, w18_106, w18_107, w18_110, w18_111, w18_112, w18_113, w18_114, w18_115, w18_117, w18_120, w18_122, w18_124, w18_127, w18_128, w18_129, w18_130i, w18_132, w18_134i, isO_put, Option.toList_some, List.cons_append, List.nil_append, true_and, and_true, not_false_eq_true, ↓reduceIte, e2, f1, f2, t19 hE hc hb]
            exact J2 (_, _) _ (Or.inr ⟨_, rfl⟩)
        · simp +decide only [w18_92, w18_94, w18_96, w18_100, w18_101, w18_103, w18_104, w18_106, w18_107, false_and, ↓reduceIte, e2, f1]
          exact J2 (-1, -1) _ (Or.inl rfl)
      rw [← J 0 0]; unfold dlim
      by_cases e3 : sI s 2 < sA s 3 (a * 128 + b).toNatClampNeg + 1 <;> simp +decide only [w18_0, w18_1, w18_4, w18_5, w18_6, w18_7, w18_8, w18_9, w18_12, w18_13, w18_14, w18_59, w18_60, w18_61, w18_62, w18_65, w18_67, w18_68, w18_71, w18_72, w18_73, w18_74, w18_75, w18_77, w18_79, w18_80, w18_83, w18_86, w18_87, w18_90i, isO_put, Option.toList_some, List.cons_append, List.nil_append, true_and, and_true, or_true, ↓reduceIte, g2, g24, g26, ai3, ae3, ai5, ain5, ae5, ain5, hx, e1, e3, t15 hE ha']
    · rw [if_pos e1, if_neg e2]; unfold dlim at e2
      by_cases e3 : sI s 2 < sA s 3 (a * 128 + b).toNatClampNeg + 1
      · rw [if_pos e3] at e2; simp +decide only [w18_0, w18_1, w18_4, w18_5, w18_6, w18_7, w18_8, w18_9, w18_12, w18_13, w18_14, w18_59, w18_60, w18_61, w18_62, w18_65, w18_67, w18_68, w18_71, w18_72, w18_73, w18_74, w18_75, w18_77, w18_79, w18_80, w18_83, w18_86, w18_87, w18_90i, w18_92, w18_94, w18_96, w18_99, isO_put, Option.toList_some, List.cons_append, List.nil_append, true_and, and_true, or_true, ↓reduceIte, g2, g24, g26, ai3, ae3, ai5, ain5, ae5, ain5, hx, e1, e2, e3, t15 hE ha']
      · rw [if_neg e3] at e2; simp +decide only [w18_0, w18_1, w18_4, w18_5, w18_6, w18_7, w18_8, w18_9, w18_12, w18_13, w18_14, w18_59, w18_60, w18_61, w18_62, w18_65, w18_67, w18_68, w18_71, w18_72, w18_73, w18_74, w18_75, w18_77, w18_79, w18_80, w18_83, w18_92, w18_94, w18_96, w18_99, isO_put, Option.toList_some, List.cons_append, List.nil_append, true_and, and_true, or_true, ↓reduceIte, g2, g24, g26, ai3, ae3, ai5, ain5, ae5, ain5, hx, e1, e2, e3, t15 hE ha']
  · rw [if_neg e1]
    by_cases f1 : 0 < a
    · have hc : 0 ≤ (a - 1).toInt ∧ (a - 1).toInt < 3 := by rw [lt32] at f1; simp only [Int32.reduceToInt] at f1; omega
      have hx2 := (ixr hc hb).2
      unfold occ
      rcases Classical.propComplete (sA s 2 ((a - 1) * 128 + b).toNatClampNeg = 0) with e | e <;> cases e3 : sb s (a - 1) b <;>
      simp +decide only [w18_0, w18_1, w18_4, w18_5, w18_6, w18_7, w18_8, w18_9, w18_12, w18_13, w18_14, w18_17, w18_18, w18_21, w18_22, w18_25, w18_26, w18_27, w18_28, w18_31, w18_32, w18_33, w18_34, w18_35, w18_38, w18_39, w18_40, w18_41, w18_42, w18_43, w18_46, w18_49, w18_50, w18_53, w18_54, w18_55, w18_56, w18_57, w18_58, isO_put, Option.toList_some, List.cons_append, List.nil_append, true_and, and_true, and_false, or_true, not_true_eq_false, not_false_eq_true, ↓reduceIte, g23, g26, g31, ai2, ain2, ae2, ai5, ain5, ae5, aw10, as10, ain2, ain5, hx, hx2, e1, f1, e, e3, t16 hE hc, bz_t, bz_f, decide_true, decide_false]
    · simp +decide only [w18_0, w18_1, w18_4, w18_5, w18_6, w18_7, w18_8, w18_9, w18_12, w18_13, w18_14, w18_17, w18_18, w18_58, isO_put, true_and, and_true, false_and, or_true, ↓reduceIte, g26, ai5, ain5, ae5, ain5, hx, e1, f1]
def apS (s : St) (l p : Int32) : St :=
  if ¬ sA s 10 (l * 128 + p).toNatClampNeg < 0 ∧ sA s 10 (l * 128 + p).toNatClampNeg < sI s 1 then
    (if occ s (sA s 10 (l * 128 + p).toNatClampNeg) p = true then uA s 10 (l * 128 + p).toNatClampNeg (-1)
     else uJ (uA (uA (uA (uA (uA (uA s 10 (l * 128 + p).toNatClampNeg (-1)) 2 (sA s 10 (l * 128 + p).toNatClampNeg * 128 + p).toNatClampNeg 1) 3 (sA s 10 (l * 128 + p).toNatClampNeg * 128 + p).toNatClampNeg (sA s 3 (l * 128 + p).toNatClampNeg)) 4 (sA s 10 (l * 128 + p).toNatClampNeg * 128 + p).toNatClampNeg (sA s 4 (l * 128 + p).toNatClampNeg)) 5 (sA s 10 (l * 128 + p).toNatClampNeg * 128 + p).toNatClampNeg (sA s 5 (l * 128 + p).toNatClampNeg)) 2 (l * 128 + p).toNatClampNeg 0) 17 (sJ s 17 + 1))
  else s
theorem t20 (hE : Ev s) (ha : 0 ≤ a.toInt ∧ a.toInt < (sI s 1).toInt) (hb : 0 ≤ b.toInt ∧ b.toInt < 128) : Cl (pj lw) 20 [.ref p, .int a, .int b] (ob H p s) Q ↔ Q none (ob H p (apS s a b)) := by
  have hn := hE.2.1
  have hx := (ixr (a := a) (b := b) (by omega) hb).2
  have h5 : sA s 5 (a * 128 + b).toNatClampNeg = 0 ∨ sA s 5 (a * 128 + b).toNatClampNeg = 1 := Evb hE (by simp)
  rw [c20]; unfold apS
  generalize ht : sA s 10 (a * 128 + b).toNatClampNeg = t
  by_cases e1 : t < 0
  · simp +decide only [w20_0, w20_1, w20_4, w20_5, w20_6, w20_7, w20_8, w20_9, w20_12, w20_13, w20_14, w20_16, w20_18, w20_30, isO_put, true_and, and_true, false_and, not_true_eq_false, ↓reduceIte, g31, ai10, ae10, hx, ht, e1]
  by_cases e2 : t < sI s 1
  · have hx2 := (ixr (a := t) (b := b) (by rw [lt32] at e1 e2; simp only [Int32.reduceToInt] at e1; omega) hb).2
    unfold occ
    rcases Classical.propComplete (sA s 2 (t * 128 + b).toNatClampNeg = 0) with e | e <;>
    simp +decide only [w20_0, w20_1, w20_4, w20_5, w20_6, w20_7, w20_8, w20_9, w20_12, w20_13, w20_14, w20_16, w20_18, w20_21, w20_23, w20_24, w20_27, w20_31, w20_32, w20_35, w20_36, w20_37, w20_38, w20_40, w20_43, w20_44, w20_45, w20_46, w20_48, w20_49, w20_52, w20_54, w20_55, w20_58, w20_59, w20_60, w20_63, w20_65, w20_66, w20_67, w20_68, w20_71, w20_73, w20_74, w20_77, w20_78, w20_79, w20_80, w20_81, w20_84, w20_86, w20_87, w20_90, w20_91, w20_92, w20_93, w20_94, w20_97, w20_99, w20_100, w20_103, w20_104, w20_105, w20_106, w20_107, w20_110, w20_111, w20_112, w20_113, w20_114, w20_115, w20_118, w20_119, w20_120, w20_123, isO_put, isOw_put, okv_long, okv_bool, okv_byte, sJ_uA, sA_uA, true_and, and_true, false_and, or_true, not_true_eq_false, not_false_eq_true, ↓reduceIte, g1, g17, s17, g23, g24, g25, g26, g31, ai2, aw2, ain2, awn2, ae2, as2, ai3, aw3, ae3, as3, ai4, aw4, ae4, as4, ai5, aw5, ain5, awn5, ae5, as5, ai10, aw10, ae10, as10, ain2, awn2, ain5, awn5, hx, hx2, h5, ht, e1, e2, e, decide_true, decide_false]
  · simp +decide only [w20_0, w20_1, w20_4, w20_5, w20_6, w20_7, w20_8, w20_9, w20_12, w20_13, w20_14, w20_16, w20_18, w20_21, w20_23, w20_24, w20_27, w20_30, isO_put, true_and, and_true, and_false, not_false_eq_true, ↓reduceIte, g1, g31, ai10, ae10, hx, ht, e1, e2]
def spV1 (s : St) (l p : Int32) : Int32 := if dlim s (l * 128 + p).toNatClampNeg < gp s l p then dlim s (l * 128 + p).toNatClampNeg else gp s l p
def spV (s : St) (l p : Int32) : Int32 := if drv s &&& 15 < sI s 9 ∧ 0 < spV1 s l p then spV1 s l p - 1 else spV1 s l p
def spS (s : St) (l p : Int32) : St := uA (uI s 3 (drw s)) 11 (l * 128 + p).toNatClampNeg (spV s l p)
theorem t22 (hE : Ev s) (ha : 0 ≤ a.toInt ∧ a.toInt < (sI s 1).toInt) (hb : 0 ≤ b.toInt ∧ b.toInt < 128) : Cl (pj lw) 22 [.ref p, .int a, .int b] (ob H p s) Q ↔ Q none (ob H p (spS s a b)) := by
  have hn := hE.2.1
  have hx := (ixr (a := a) (b := b) (by omega) hb).2
  have ha' : 0 ≤ a.toInt ∧ a.toInt < 3 := by omega
  rw [c22]; unfold spS spV
  generalize hv : spV1 s a b = v1
  have K : W (pj lw) 22 55 [.val (.ref p), .val (.int a), .val (.int b), .val (.int (a * 128 + b)), .val (.int (dlim s (a * 128 + b).toNatClampNeg)), .val (.int (gp s a b)), .unset, .unset, .unset] [.int v1] 0 0 (ob H p s) Q ↔ Q none (ob H p (uA (uI s 3 (drw s)) 11 (a * 128 + b).toNatClampNeg (if drv s &&& 15 < sI s 9 ∧ 0 < v1 then v1 - 1 else v1))) := by
    rcases Classical.propComplete (drv s &&& 15 < sI s 9) with e1 | e1 <;> rcases Classical.propComplete (0 < v1) with e2 | e2 <;>
    simp +decide only [w22_55, w22_57, w22_58, w22_61, w22_63, w22_65, w22_67, w22_69, w22_71, w22_72, w22_73, w22_76, w22_79, w22_81, w22_84, w22_86, w22_87, w22_88i, w22_90, w22_91, w22_94, w22_95, w22_97, w22_98, isO_put, sI_uI, Option.toList_some, List.cons_append, List.nil_append, true_and, and_true, and_false, ↓reduceIte, g9, g32, aw11, as11, t13, hx, e1, e2]
  rw [← K, ← hv]; clear K hv
  unfold spV1 dlim
  by_cases e3 : sI s 2 < sA s 3 (a * 128 + b).toNatClampNeg + 1
  · rw [if_pos e3]
    by_cases e4 : sI s 2 < gp s a b <;> simp +decide only [w22_0, w22_1, w22_4, w22_5, w22_6, w22_7, w22_8, w22_9, w22_12, w22_13, w22_14, w22_15, w22_16, w22_18, w22_20, w22_21, w22_24, w22_27, w22_28, w22_31i, w22_33, w22_34, w22_35, w22_36, w22_39, w22_41, w22_43, w22_45, w22_48, w22_50, w22_53, isO_put, Option.toList_some, List.cons_append, List.nil_append, true_and, and_true, ↓reduceIte, g2, g24, ai3, ae3, hx, e3, e4, t15 hE ha']
  · rw [if_neg e3]
    by_cases e4 : sA s 3 (a * 128 + b).toNatClampNeg + 1 < gp s a b <;> simp +decide only [w22_0, w22_1, w22_4, w22_5, w22_6, w22_7, w22_8, w22_9, w22_12, w22_13, w22_14, w22_15, w22_16, w22_18, w22_20, w22_21, w22_24, w22_33, w22_34, w22_35, w22_36, w22_39, w22_41, w22_43, w22_45, w22_48, w22_50, w22_53, isO_put, Option.toList_some, List.cons_append, List.nil_append, true_and, and_true, ↓reduceIte, g2, g24, ai3, ae3, hx, e3, e4, t15 hE ha']
end B

section C
variable {lw : LW} {H : AH} {p j : Nat} {s s' : St} {Q : Option Value → AH → Prop} {a b c d : Int32} {h : Nat → Cel} {k n : Nat}
def itF (f : St → Nat → St) : Nat → Nat → St → St
  | 0, _, s => s
  | m + 1, e, s => itF f m (e + 1) (f s e)
theorem itF_inv {f : St → Nat → St} {I : St → Prop} (hf : ∀ s e, I s → I (f s e)) : ∀ (m e : Nat) (s : St), I s → I (itF f m e s)
  | 0, _, _, h => h
  | m + 1, e, s, h => itF_inv hf m (e + 1) (f s e) (hf s e h)
theorem ofn {i : Int32} (h : 0 ≤ i.toInt ∧ i.toInt < 1000) : Int32.ofNat i.toNatClampNeg = i := by rw [eq32, Int32.toInt_ofNat_of_lt (by rw [cln]; omega), cln]; omega
theorem ofi {i : Nat} (h : i < 1000) : (Int32.ofNat i).toInt = i ∧ (Int32.ofNat i).toNatClampNeg = i := by
  have e : (Int32.ofNat i).toInt = i := Int32.toInt_ofNat_of_lt (by omega)
  exact ⟨e, by rw [cln, e]; omega⟩
def lpF (f : St → Int32 → Int32 → St) (l : Int32) (m q : Nat) (s : St) : St := itF (fun s q => f s l (Int32.ofNat q)) m q s
def lnF (f : St → Int32 → Int32 → St) (m l : Nat) (s : St) : St := itF (fun s l => lpF f (Int32.ofNat l) (sI s 0).toInt.toNat 0 s) m l s
def rdA (f : St → Int32 → Int32 → St) (s : St) : St := lnF f (sI s 1).toInt.toNat 0 s
def ifo (f : St → Int32 → Int32 → St) (s : St) (l p : Int32) : St := if occ s l p = true then f s l p else s
def Kp (f : St → Int32 → Int32 → St) : Prop := ∀ s l p, Ev s → (0 ≤ l.toInt ∧ l.toInt < (sI s 1).toInt) → (0 ≤ p.toInt ∧ p.toInt < (sI s 0).toInt) → Ev (f s l p) ∧ ∀ x, x ≠ 3 → x ≠ 12 → sI (f s l p) x = sI s x
theorem Kp_ifo {f : St → Int32 → Int32 → St} (h : Kp f) : Kp (ifo f) := by
  intro s l p hE hl hp; unfold ifo; split
  · exact h s l p hE hl hp
  · exact ⟨hE, fun _ _ _ => rfl⟩
theorem lpF_kp {f : St → Int32 → Int32 → St} (hf : Kp f) {l : Int32} : ∀ (m q : Nat) (s : St), Ev s → (0 ≤ l.toInt ∧ l.toInt < (sI s 1).toInt) → q + m ≤ (sI s 0).toInt.toNat → Ev (lpF f l m q s) ∧ ∀ x, x ≠ 3 → x ≠ 12 → sI (lpF f l m q s) x = sI s x
  | 0, _, _, hE, _, _ => ⟨hE, fun _ _ _ => rfl⟩
  | m + 1, q, s, hE, hl, hq => by
    have hb := hE.1
    have e := (ofi (i := q) (by omega)).1
    obtain ⟨k1, k2⟩ := hf s l (Int32.ofNat q) hE hl (by rw [e]; omega)
    have r := lpF_kp hf m (q + 1) (f s l (Int32.ofNat q)) k1 (by rw [k2 1 (by decide) (by decide)]; exact hl) (by rw [k2 0 (by decide) (by decide)]; omega)
    exact ⟨r.1, fun x h1 h2 => (r.2 x h1 h2).trans (k2 x h1 h2)⟩
theorem lnF_kp {f : St → Int32 → Int32 → St} (hf : Kp f) : ∀ (m l : Nat) (s : St), Ev s → l + m ≤ (sI s 1).toInt.toNat → Ev (lnF f m l s) ∧ ∀ x, x ≠ 3 → x ≠ 12 → sI (lnF f m l s) x = sI s x
  | 0, _, _, hE, _ => ⟨hE, fun _ _ _ => rfl⟩
  | m + 1, l, s, hE, hl => by
    have hb := hE.2.1
    have e := (ofi (i := l) (by omega)).1
    obtain ⟨k1, k2⟩ := lpF_kp hf (l := Int32.ofNat l) (sI s 0).toInt.toNat 0 s hE (by rw [e]; omega) (by omega)
    have r := lnF_kp hf m (l + 1) _ k1 (by rw [k2 1 (by decide) (by decide)]; omega)
    exact ⟨r.1, fun x h1 h2 => (r.2 x h1 h2).trans (k2 x h1 h2)⟩
theorem rdA_kp {f : St → Int32 → Int32 → St} (hf : Kp f) (hE : Ev s) : Ev (rdA f s) ∧ ∀ x, x ≠ 3 → x ≠ 12 → sI (rdA f s) x = sI s x := lnF_kp hf _ _ s hE (by omega)
theorem gpF_rg (hE : Ev s) : ∀ (m : Nat) (i g : Int32), i.toInt = (sI s 2).toInt + 1 - m → 1 ≤ i.toInt → g.toInt = i.toInt - 1 → (∀ j : Int32, 1 ≤ j.toInt → j.toInt ≤ g.toInt → blk' s a (wrp s (b + j)) = false) →
    (0 ≤ (gpF s a b m i g).toInt ∧ (gpF s a b m i g).toInt ≤ (sI s 2).toInt) ∧ ∀ j : Int32, 1 ≤ j.toInt → j.toInt ≤ (gpF s a b m i g).toInt → blk' s a (wrp s (b + j)) = false
  | 0, i, g, hi, h1, hg, hf => ⟨by rw [gpF]; omega, hf⟩
  | m + 1, i, g, hi, h1, hg, hf => by
    have hb := hE.2.2.1
    have h2 : (i + 1).toInt = i.toInt + 1 := ia (by simp only [Int32.reduceToInt]; omega) (by simp only [Int32.reduceToInt]; omega)
    rw [gpF]; split
    · exact ⟨by omega, hf⟩
    · rename_i e
      refine gpF_rg hE m (i + 1) i (by omega) (by omega) (by omega) fun j j1 j2 => ?_
      by_cases ej : j = i
      · subst ej; simpa using e
      · exact hf j j1 (by rw [eq32] at ej; omega)
theorem gp_rg (hE : Ev s) : (0 ≤ (gp s a b).toInt ∧ (gp s a b).toInt ≤ (sI s 2).toInt) ∧ ∀ j : Int32, 1 ≤ j.toInt → j.toInt ≤ (gp s a b).toInt → blk' s a (wrp s (b + j)) = false := by
  have hb := hE.2.2.1
  exact gpF_rg hE _ 1 0 (by simp only [Int32.reduceToInt]; omega) (by decide) (by decide) fun j j1 j2 => by simp only [Int32.reduceToInt] at j2; omega
theorem dlim_rg {i : Nat} (hE : Ev s) : 0 ≤ (dlim s i).toInt ∧ (dlim s i).toInt ≤ (sI s 2).toInt := by
  have hb := hE.2.2.1
  have hv : vr s (sA s 3 i) := Evv hE (by simp)
  unfold vr at hv
  have e : (sA s 3 i + 1).toInt = (sA s 3 i).toInt + 1 := ia (by simp only [Int32.reduceToInt]; omega) (by simp only [Int32.reduceToInt]; omega)
  unfold dlim; split
  · omega
  · rename_i g; rw [lt32] at g; omega
theorem spV_rg (hE : Ev s) : 0 ≤ (spV s a b).toInt ∧ (spV s a b).toInt ≤ (gp s a b).toInt ∧ (spV s a b).toInt ≤ (sI s 2).toInt := by
  have g := (gp_rg (a := a) (b := b) hE).1
  have d := dlim_rg (i := (a * 128 + b).toNatClampNeg) hE
  have hb := hE.2.2.1
  have h1 : 0 ≤ (spV1 s a b).toInt ∧ (spV1 s a b).toInt ≤ (gp s a b).toInt := by
    unfold spV1; split
    · rename_i e; rw [lt32] at e; omega
    · omega
  unfold spV; split
  · rename_i e; have := e.2; rw [lt32] at this; simp only [Int32.reduceToInt] at this
    rw [isb (by simp only [Int32.reduceToInt]; omega) (by simp only [Int32.reduceToInt]; omega)]; simp only [Int32.reduceToInt]; omega
  · omega
theorem Kp_dc : Kp dcS := by
  intro s l p hE hl hp
  have A : ∀ i v, Ev (uA s 10 i v) ∧ ∀ x, x ≠ 3 → x ≠ 12 → sI (uA s 10 i v) x = sI s x := fun i v => ⟨Ev_uA hE (by omega) (by omega), fun _ _ _ => sI_uA⟩
  have B : Ev s ∧ ∀ x, x ≠ 3 → x ≠ 12 → sI s x = sI s x := ⟨hE, fun _ _ _ => rfl⟩
  unfold dcS; (repeat' split)
  · exact A _ _
  · exact B
  · exact A _ _
  · exact B
theorem Kp_ap : Kp apS := by
  intro s l p hE hl hp
  unfold apS; (repeat' split)
  · exact ⟨Ev_uA hE (by omega) (by omega), fun _ _ _ => sI_uA⟩
  · refine ⟨Ev_uJ (Ev_uA (Ev_uA (Ev_uA (Ev_uA (Ev_uA (Ev_uA hE (by omega) (by omega)) (by omega) (by omega)) (by omega) (fun _ => ?_)) (by omega) (by omega)) (fun _ => Evb hE (by simp)) (by omega)) (by omega) (by omega)), fun x _ _ => by simp only [sI_uJ, sI_uA]⟩
    have := Evv (t := 3) (i := (l * 128 + p).toNatClampNeg) hE (by simp)
    unfold vr at *; simp only [sI_uA]; exact this
  · exact ⟨hE, fun _ _ _ => rfl⟩
theorem Kp_sp : Kp spS := by
  intro s l p hE hl hp
  unfold spS
  refine ⟨Ev_uA (Ev_uI hE (by decide)) (by omega) (fun _ => ?_), fun x h1 _ => by simp only [sI_uA, sI_uI, if_neg h1]⟩
  have := spV_rg (a := l) (b := p) hE
  unfold vr; simp +decide only [sI_uI, ↓reduceIte]; omega

def dst0 (s : St) (i : Nat) : St := uA s 10 i (-1)
theorem l17_2 {l2 : Slot} (m : Nat) : ∀ (q : Int32) (s : St), q.toInt = 384 - m → 0 ≤ q.toInt →
    (W (pj lw) 17 2 [.val (.ref p), .val (.int q), l2] [] k n (ob H p s) Q ↔ W (pj lw) 17 22 [.val (.ref p), .val (.int 384), l2] [] k n (ob H p (itF dst0 m q.toNatClampNeg s)) Q) := by
  induction m with
  | zero =>
    intro q s hq h0
    have h1 : ¬ q < 384 := by rw [lt32]; simp only [Int32.reduceToInt]; omega
    have e : q = 384 := by rw [eq32]; simp only [Int32.reduceToInt]; omega
    rw [w17_2]; simp +decide only [w17_3, w17_6, ↓reduceIte, h1]
    rw [e]; rfl
  | succ m ih =>
    intro q s hq h0
    have h1 : q < 384 := by rw [lt32]; simp only [Int32.reduceToInt]; omega
    have h2 : (q + 1).toInt = q.toInt + 1 := ia (by simp only [Int32.reduceToInt]; omega) (by simp only [Int32.reduceToInt]; omega)
    have h4 : (q + 1).toNatClampNeg = q.toNatClampNeg + 1 := by rw [cln, cln]; omega
    have hx : 0 ≤ q.toInt ∧ q.toInt < 384 := by omega
    have key := ih (q + 1) (dst0 s q.toNatClampNeg) (by omega) (by omega)
    rw [h4] at key
    rw [itF, w17_2, ← key]; unfold dst0
    simp +decide only [w17_3, w17_6, w17_9, w17_10, w17_13, w17_14, w17_15, w17_16, w17_19, isO_put, true_and, and_true, ↓reduceIte, g31, aw10, as10, h1, hx]

theorem l17_34 (hK : Kp (ifo dcS)) (m : Nat) : ∀ (q : Int32) (s : St), Ev s → (0 ≤ a.toInt ∧ a.toInt < (sI s 1).toInt) → q.toInt = (sI s 0).toInt - m → 0 ≤ q.toInt →
    (W (pj lw) 17 34 [.val (.ref p), .val (.int a), .val (.int q)] [] k n (ob H p s) Q ↔ W (pj lw) 17 69 [.val (.ref p), .val (.int a), .val (.int (sI s 0))] [] k n (ob H p (lpF (ifo dcS) a m q.toNatClampNeg s)) Q) := by
  induction m with
  | zero =>
    intro q s hE ha hq h0
    have h1 : ¬ q < sI s 0 := by rw [lt32]; omega
    have e : q = sI s 0 := by rw [eq32]; omega
    rw [w17_34]; simp +decide only [w17_35, w17_36, w17_39, isO_put, true_and, ↓reduceIte, g0, h1]
    rw [e]; rfl
  | succ m ih =>
    intro q s hE ha hq h0
    have hb := hE.1
    have hn := hE.2.1
    have h1 : q < sI s 0 := by rw [lt32]; omega
    have h2 : (q + 1).toInt = q.toInt + 1 := ia (by simp only [Int32.reduceToInt]; omega) (by simp only [Int32.reduceToInt]; omega)
    have h4 : (q + 1).toNatClampNeg = q.toNatClampNeg + 1 := by rw [cln, cln]; omega
    have hof := ofn (i := q) (by omega)
    have hx := (ixr (a := a) (b := q) (by omega) (by omega)).2
    obtain ⟨k1, k2⟩ := hK s a q hE ha (by omega)
    have key := ih (q + 1) (ifo dcS s a q) k1 (by rw [k2 1 (by decide) (by decide)]; exact ha) (by rw [k2 0 (by decide) (by decide)]; omega) (by omega)
    rw [h4, k2 0 (by decide) (by decide)] at key
    have A1 := fun (Q : Option Value → AH → Prop) => t18 (lw := lw) (H := H) (p := p) (Q := Q) (a := a) (b := q) hE ha (by omega)
    have eF : lpF (ifo dcS) a (m + 1) q.toNatClampNeg s = lpF (ifo dcS) a m (q.toNatClampNeg + 1) (ifo dcS s a q) := by unfold lpF; rw [itF, hof]
    rw [w17_34, eF, ← key]
    unfold ifo occ
    rcases Classical.propComplete (sA s 2 (a * 128 + q).toNatClampNeg = 0) with e | e <;>
    simp +decide only [w17_35, w17_36, w17_39, w17_42, w17_43, w17_46, w17_47, w17_50, w17_51, w17_52, w17_53, w17_54, w17_57, w17_58, w17_59, w17_60, w17_63, w17_66, isO_put, Option.toList_none, List.nil_append, true_and, and_true, or_true, not_true_eq_false, not_false_eq_true, ↓reduceIte, g0, g23, ai2, ain2, ae2, ain2, hx, h1, e, A1, decide_true, decide_false]
theorem l17_24 (hK : Kp (ifo dcS)) {R : St → Prop} (m : Nat) : ∀ (i : Int32) (s : St), Ev s → i.toInt = (sI s 1).toInt - m → 0 ≤ i.toInt → ∀ l2 : Slot, (l2 = .unset ∨ ∃ v, l2 = .val (.int v)) →
    (∀ (l2 : Slot), (l2 = .unset ∨ ∃ v, l2 = .val (.int v)) → (W (pj lw) 17 75 [.val (.ref p), .val (.int (sI s 1)), l2] [] k n (ob H p (lnF (ifo dcS) m i.toNatClampNeg s)) Q ↔ R (lnF (ifo dcS) m i.toNatClampNeg s))) →
    (W (pj lw) 17 24 [.val (.ref p), .val (.int i), l2] [] k n (ob H p s) Q ↔ R (lnF (ifo dcS) m i.toNatClampNeg s)) := by
  induction m with
  | zero =>
    intro i s hE hi h0 l2 hl hR
    have h1 : ¬ i < sI s 1 := by rw [lt32]; omega
    have e : i = sI s 1 := by rw [eq32]; omega
    have key := hR l2 hl
    rw [← e] at key
    rw [w17_24]; simp +decide only [w17_25, w17_26, w17_29, isO_put, true_and, ↓reduceIte, g1, h1]
    exact key
  | succ m ih =>
    intro i s hE hi h0 l2 hl hR
    have hb := hE.1
    have hn := hE.2.1
    have h1 : i < sI s 1 := by rw [lt32]; omega
    have h2 : (i + 1).toInt = i.toInt + 1 := ia (by simp only [Int32.reduceToInt]; omega) (by simp only [Int32.reduceToInt]; omega)
    have h4 : (i + 1).toNatClampNeg = i.toNatClampNeg + 1 := by rw [cln, cln]; omega
    have hof := ofn (i := i) (by omega)
    have eF : lnF (ifo dcS) (m + 1) i.toNatClampNeg s = lnF (ifo dcS) m (i.toNatClampNeg + 1) (lpF (ifo dcS) i (sI s 0).toInt.toNat 0 s) := by unfold lnF; rw [itF, hof]
    obtain ⟨k1, k2⟩ := lpF_kp hK (l := i) (sI s 0).toInt.toNat 0 s hE (by omega) (by omega)
    have key := ih (i + 1) (lpF (ifo dcS) i (sI s 0).toInt.toNat 0 s) k1 (by rw [k2 1 (by decide) (by decide)]; omega) (by omega) (.val (.int (sI s 0))) (Or.inr ⟨_, rfl⟩) (by
      intro l3 hl3
      have := hR l3 hl3
      rw [eF] at this; rw [h4, k2 1 (by decide) (by decide)]; exact this)
    rw [h4] at key
    have inn := l17_34 (lw := lw) (H := H) (p := p) (Q := Q) (k := k) (n := n) (a := i) hK (sI s 0).toInt.toNat 0 s hE (by omega) (by simp only [Int32.reduceToInt]; omega) (by decide)
    simp only [Int32.reduceToNatClampNeg] at inn
    rw [w17_24, eF, ← key]
    rcases hl with rfl | ⟨v, rfl⟩ <;> simp +decide only [w17_25, w17_26, w17_29, w17_32, w17_33i, w17_33, isO_put, true_and, ↓reduceIte, g1, h1, inn, w17_69, w17_72]

theorem l17_87 (hK : Kp (apS)) (m : Nat) : ∀ (q : Int32) (s : St), Ev s → (0 ≤ a.toInt ∧ a.toInt < (sI s 1).toInt) → q.toInt = (sI s 0).toInt - m → 0 ≤ q.toInt →
    (W (pj lw) 17 87 [.val (.ref p), .val (.int a), .val (.int q)] [] k n (ob H p s) Q ↔ W (pj lw) 17 107 [.val (.ref p), .val (.int a), .val (.int (sI s 0))] [] k n (ob H p (lpF (apS) a m q.toNatClampNeg s)) Q) := by
  induction m with
  | zero =>
    intro q s hE ha hq h0
    have h1 : ¬ q < sI s 0 := by rw [lt32]; omega
    have e : q = sI s 0 := by rw [eq32]; omega
    rw [w17_87]; simp +decide only [w17_88, w17_89, w17_92, isO_put, true_and, ↓reduceIte, g0, h1]
    rw [e]; rfl
  | succ m ih =>
    intro q s hE ha hq h0
    have hb := hE.1
    have hn := hE.2.1
    have h1 : q < sI s 0 := by rw [lt32]; omega
    have h2 : (q + 1).toInt = q.toInt + 1 := ia (by simp only [Int32.reduceToInt]; omega) (by simp only [Int32.reduceToInt]; omega)
    have h4 : (q + 1).toNatClampNeg = q.toNatClampNeg + 1 := by rw [cln, cln]; omega
    have hof := ofn (i := q) (by omega)
    have hx := (ixr (a := a) (b := q) (by omega) (by omega)).2
    obtain ⟨k1, k2⟩ := hK s a q hE ha (by omega)
    have key := ih (q + 1) (apS s a q) k1 (by rw [k2 1 (by decide) (by decide)]; exact ha) (by rw [k2 0 (by decide) (by decide)]; omega) (by omega)
    rw [h4, k2 0 (by decide) (by decide)] at key
    have A1 := fun (Q : Option Value → AH → Prop) => t20 (lw := lw) (H := H) (p := p) (Q := Q) (a := a) (b := q) hE ha (by omega)
    have eF : lpF (apS) a (m + 1) q.toNatClampNeg s = lpF (apS) a m (q.toNatClampNeg + 1) (apS s a q) := by unfold lpF; rw [itF, hof]
    rw [w17_87, eF, ← key]
    simp +decide only [w17_88, w17_89, w17_92, w17_95, w17_96, w17_97, w17_98, w17_101, w17_104, isO_put, Option.toList_none, List.nil_append, true_and, and_true, ↓reduceIte, g0, h1, A1]
theorem l17_77 (hK : Kp (apS)) {R : St → Prop} (m : Nat) : ∀ (i : Int32) (s : St), Ev s → i.toInt = (sI s 1).toInt - m → 0 ≤ i.toInt → ∀ l2 : Slot, (l2 = .unset ∨ ∃ v, l2 = .val (.int v)) →
    (∀ (l2 : Slot), (l2 = .unset ∨ ∃ v, l2 = .val (.int v)) → (W (pj lw) 17 113 [.val (.ref p), .val (.int (sI s 1)), l2] [] k n (ob H p (lnF (apS) m i.toNatClampNeg s)) Q ↔ R (lnF (apS) m i.toNatClampNeg s))) →
    (W (pj lw) 17 77 [.val (.ref p), .val (.int i), l2] [] k n (ob H p s) Q ↔ R (lnF (apS) m i.toNatClampNeg s)) := by
  induction m with
  | zero =>
    intro i s hE hi h0 l2 hl hR
    have h1 : ¬ i < sI s 1 := by rw [lt32]; omega
    have e : i = sI s 1 := by rw [eq32]; omega
    have key := hR l2 hl
    rw [← e] at key
    rw [w17_77]; simp +decide only [w17_78, w17_79, w17_82, isO_put, true_and, ↓reduceIte, g1, h1]
    exact key
  | succ m ih =>
    intro i s hE hi h0 l2 hl hR
    have hb := hE.1
    have hn := hE.2.1
    have h1 : i < sI s 1 := by rw [lt32]; omega
    have h2 : (i + 1).toInt = i.toInt + 1 := ia (by simp only [Int32.reduceToInt]; omega) (by simp only [Int32.reduceToInt]; omega)
    have h4 : (i + 1).toNatClampNeg = i.toNatClampNeg + 1 := by rw [cln, cln]; omega
    have hof := ofn (i := i) (by omega)
    have eF : lnF (apS) (m + 1) i.toNatClampNeg s = lnF (apS) m (i.toNatClampNeg + 1) (lpF (apS) i (sI s 0).toInt.toNat 0 s) := by unfold lnF; rw [itF, hof]
    obtain ⟨k1, k2⟩ := lpF_kp hK (l := i) (sI s 0).toInt.toNat 0 s hE (by omega) (by omega)
    have key := ih (i + 1) (lpF (apS) i (sI s 0).toInt.toNat 0 s) k1 (by rw [k2 1 (by decide) (by decide)]; omega) (by omega) (.val (.int (sI s 0))) (Or.inr ⟨_, rfl⟩) (by
      intro l3 hl3
      have := hR l3 hl3
      rw [eF] at this; rw [h4, k2 1 (by decide) (by decide)]; exact this)
    rw [h4] at key
    have inn := l17_87 (lw := lw) (H := H) (p := p) (Q := Q) (k := k) (n := n) (a := i) hK (sI s 0).toInt.toNat 0 s hE (by omega) (by simp only [Int32.reduceToInt]; omega) (by decide)
    simp only [Int32.reduceToNatClampNeg] at inn
    rw [w17_77, eF, ← key]
    rcases hl with rfl | ⟨v, rfl⟩ <;> simp +decide only [w17_78, w17_79, w17_82, w17_85, w17_86i, w17_86, isO_put, true_and, ↓reduceIte, g1, h1, inn, w17_107, w17_110]

theorem l21_12 (hK : Kp (ifo spS)) (m : Nat) : ∀ (q : Int32) (s : St), Ev s → (0 ≤ a.toInt ∧ a.toInt < (sI s 1).toInt) → q.toInt = (sI s 0).toInt - m → 0 ≤ q.toInt →
    (W (pj lw) 21 12 [.val (.ref p), .val (.int a), .val (.int q)] [] k n (ob H p s) Q ↔ W (pj lw) 21 47 [.val (.ref p), .val (.int a), .val (.int (sI s 0))] [] k n (ob H p (lpF (ifo spS) a m q.toNatClampNeg s)) Q) := by
  induction m with
  | zero =>
    intro q s hE ha hq h0
    have h1 : ¬ q < sI s 0 := by rw [lt32]; omega
    have e : q = sI s 0 := by rw [eq32]; omega
    rw [w21_12]; simp +decide only [w21_13, w21_14, w21_17, isO_put, true_and, ↓reduceIte, g0, h1]
    rw [e]; rfl
  | succ m ih =>
    intro q s hE ha hq h0
    have hb := hE.1
    have hn := hE.2.1
    have h1 : q < sI s 0 := by rw [lt32]; omega
    have h2 : (q + 1).toInt = q.toInt + 1 := ia (by simp only [Int32.reduceToInt]; omega) (by simp only [Int32.reduceToInt]; omega)
    have h4 : (q + 1).toNatClampNeg = q.toNatClampNeg + 1 := by rw [cln, cln]; omega
    have hof := ofn (i := q) (by omega)
    have hx := (ixr (a := a) (b := q) (by omega) (by omega)).2
    obtain ⟨k1, k2⟩ := hK s a q hE ha (by omega)
    have key := ih (q + 1) (ifo spS s a q) k1 (by rw [k2 1 (by decide) (by decide)]; exact ha) (by rw [k2 0 (by decide) (by decide)]; omega) (by omega)
    rw [h4, k2 0 (by decide) (by decide)] at key
    have A1 := fun (Q : Option Value → AH → Prop) => t22 (lw := lw) (H := H) (p := p) (Q := Q) (a := a) (b := q) hE ha (by omega)
    have eF : lpF (ifo spS) a (m + 1) q.toNatClampNeg s = lpF (ifo spS) a m (q.toNatClampNeg + 1) (ifo spS s a q) := by unfold lpF; rw [itF, hof]
    rw [w21_12, eF, ← key]
    unfold ifo occ
    rcases Classical.propComplete (sA s 2 (a * 128 + q).toNatClampNeg = 0) with e | e <;>
    simp +decide only [w21_13, w21_14, w21_17, w21_20, w21_21, w21_24, w21_25, w21_28, w21_29, w21_30, w21_31, w21_32, w21_35, w21_36, w21_37, w21_38, w21_41, w21_44, isO_put, Option.toList_none, List.nil_append, true_and, and_true, or_true, not_true_eq_false, not_false_eq_true, ↓reduceIte, g0, g23, ai2, ain2, ae2, ain2, hx, h1, e, A1, decide_true, decide_false]
theorem l21_2 (hK : Kp (ifo spS)) {R : St → Prop} (m : Nat) : ∀ (i : Int32) (s : St), Ev s → i.toInt = (sI s 1).toInt - m → 0 ≤ i.toInt → ∀ l2 : Slot, (l2 = .unset ∨ ∃ v, l2 = .val (.int v)) →
    (∀ (l2 : Slot), (l2 = .unset ∨ ∃ v, l2 = .val (.int v)) → (W (pj lw) 21 53 [.val (.ref p), .val (.int (sI s 1)), l2] [] k n (ob H p (lnF (ifo spS) m i.toNatClampNeg s)) Q ↔ R (lnF (ifo spS) m i.toNatClampNeg s))) →
    (W (pj lw) 21 2 [.val (.ref p), .val (.int i), l2] [] k n (ob H p s) Q ↔ R (lnF (ifo spS) m i.toNatClampNeg s)) := by
  induction m with
  | zero =>
    intro i s hE hi h0 l2 hl hR
    have h1 : ¬ i < sI s 1 := by rw [lt32]; omega
    have e : i = sI s 1 := by rw [eq32]; omega
    have key := hR l2 hl
    rw [← e] at key
    rw [w21_2]; simp +decide only [w21_3, w21_4, w21_7, isO_put, true_and, ↓reduceIte, g1, h1]
    exact key
  | succ m ih =>
    intro i s hE hi h0 l2 hl hR
    have hb := hE.1
    have hn := hE.2.1
    have h1 : i < sI s 1 := by rw [lt32]; omega
    have h2 : (i + 1).toInt = i.toInt + 1 := ia (by simp only [Int32.reduceToInt]; omega) (by simp only [Int32.reduceToInt]; omega)
    have h4 : (i + 1).toNatClampNeg = i.toNatClampNeg + 1 := by rw [cln, cln]; omega
    have hof := ofn (i := i) (by omega)
    have eF : lnF (ifo spS) (m + 1) i.toNatClampNeg s = lnF (ifo spS) m (i.toNatClampNeg + 1) (lpF (ifo spS) i (sI s 0).toInt.toNat 0 s) := by unfold lnF; rw [itF, hof]
    obtain ⟨k1, k2⟩ := lpF_kp hK (l := i) (sI s 0).toInt.toNat 0 s hE (by omega) (by omega)
    have key := ih (i + 1) (lpF (ifo spS) i (sI s 0).toInt.toNat 0 s) k1 (by rw [k2 1 (by decide) (by decide)]; omega) (by omega) (.val (.int (sI s 0))) (Or.inr ⟨_, rfl⟩) (by
      intro l3 hl3
      have := hR l3 hl3
      rw [eF] at this; rw [h4, k2 1 (by decide) (by decide)]; exact this)
    rw [h4] at key
    have inn := l21_12 (lw := lw) (H := H) (p := p) (Q := Q) (k := k) (n := n) (a := i) hK (sI s 0).toInt.toNat 0 s hE (by omega) (by simp only [Int32.reduceToInt]; omega) (by decide)
    simp only [Int32.reduceToNatClampNeg] at inn
    rw [w21_2, eF, ← key]
    rcases hl with rfl | ⟨v, rfl⟩ <;> simp +decide only [w21_3, w21_4, w21_7, w21_10, w21_11i, w21_11, isO_put, true_and, ↓reduceIte, g1, h1, inn, w21_47, w21_50]

def clS0 (s : St) : St := itF dst0 384 0 s
def clS (s : St) : St := rdA apS (rdA (ifo dcS) (clS0 s))
theorem clS0_kp (hE : Ev s) : Ev (clS0 s) ∧ ∀ x, sI (clS0 s) x = sI s x := ⟨itF_inv (I := Ev) (fun v e g => Ev_uA g (by omega) (by omega)) _ _ _ hE, fun x => itF_inv (I := fun v => sI v x = sI s x) (fun v e g => by unfold dst0; rw [sI_uA]; exact g) _ _ _ rfl⟩
theorem clS_kp (hE : Ev s) : Ev (clS s) ∧ ∀ x, x ≠ 3 → x ≠ 12 → sI (clS s) x = sI s x := by
  obtain ⟨a1, a2⟩ := clS0_kp hE
  obtain ⟨b1, b2⟩ := rdA_kp (Kp_ifo Kp_dc) a1
  obtain ⟨c1, c2⟩ := rdA_kp Kp_ap b1
  exact ⟨c1, fun x h1 h2 => (c2 x h1 h2).trans ((b2 x h1 h2).trans (a2 x))⟩
theorem t17 (hE : Ev s) : Cl (pj lw) 17 [.ref p] (ob H p s) Q ↔ Q none (ob H p (clS s)) := by
  obtain ⟨a1, a2⟩ := clS0_kp hE
  obtain ⟨b1, b2⟩ := rdA_kp (Kp_ifo Kp_dc) a1
  rw [c17]; simp +decide only [w17_0, w17_1]
  rw [l17_2 384 0 s (by decide) (by decide)]
  simp +decide only [w17_22, w17_23i, Int32.reduceToNatClampNeg, Int32.reduceToNatClampNeg]
  have L2 := l17_24 (lw := lw) (H := H) (p := p) (Q := Q) (k := 0) (n := 0) (Kp_ifo Kp_dc) (R := fun v => Q none (ob H p (rdA apS v))) (sI (clS0 s) 1).toInt.toNat 0 (clS0 s) a1 (by simp only [Int32.reduceToInt]; have := a1.2.1; omega) (by decide) .unset (Or.inl rfl)
  simp only [Int32.reduceToNatClampNeg] at L2
  refine L2 fun l2 hl => ?_
  have L3 := l17_77 (lw := lw) (H := H) (p := p) (Q := Q) (k := 0) (n := 0) Kp_ap (R := fun v => Q none (ob H p v)) (sI (rdA (ifo dcS) (clS0 s)) 1).toInt.toNat 0 (rdA (ifo dcS) (clS0 s)) b1 (by simp only [Int32.reduceToInt]; have := b1.2.1; omega) (by decide) l2 hl
  simp only [Int32.reduceToNatClampNeg] at L3
  rcases hl with rfl | ⟨v, rfl⟩ <;>
  · simp +decide only [w17_75, w17_76i]
    exact L3 fun l3 hl3 => by simp +decide only [w17_113]
def csS (s : St) : St := rdA (ifo spS) s
theorem t21 (hE : Ev s) : Cl (pj lw) 21 [.ref p] (ob H p s) Q ↔ Q none (ob H p (csS s)) := by
  rw [c21]; simp +decide only [w21_0, w21_1]
  have L := l21_2 (lw := lw) (H := H) (p := p) (Q := Q) (k := 0) (n := 0) (Kp_ifo Kp_sp) (R := fun v => Q none (ob H p v)) (sI s 1).toInt.toNat 0 s hE (by simp only [Int32.reduceToInt]; have := hE.2.1; omega) (by decide) .unset (Or.inl rfl)
  simp only [Int32.reduceToNatClampNeg] at L
  exact L fun l3 hl3 => by simp +decide only [w21_53]
def exF (s : St) (p : Int32) : Nat → Int32 → Int32
  | 0, _ => 0
  | m + 1, k => if wrp s (p + k) = sI s 8 then k else exF s p m (k + 1)
def exP (s : St) (l p v : Int32) : Int32 := if l = 0 ∧ ¬ sI s 8 < 0 ∧ ¬ sA s 5 p.toNatClampNeg = 0 then exF s p v.toInt.toNat 1 else 0
theorem l25 (hE : Ev s) (hc : 0 ≤ c.toInt ∧ c.toInt ≤ 1000) (m : Nat) : ∀ (i : Int32), i.toInt = c.toInt + 1 - m → 0 ≤ i.toInt →
    (W (pj lw) 25 25 [.val (.ref p), .val (.int a), .val (.int b), .val (.int c), .val (.int i)] [] k n (ob H p s) Q ↔ Q (some (.int (exF s b m i))) (ob H p s)) := by
  induction m with
  | zero =>
    intro i hi h0
    have h1 : c < i := by rw [lt32]; omega
    rw [w25_25]; simp +decide only [w25_27, w25_28, w25_55, w25_56, ↓reduceIte, h1, exF]
  | succ m ih =>
    intro i hi h0
    have h1 : ¬ c < i := by rw [lt32]; omega
    have h2 : (i + 1).toInt = i.toInt + 1 := ia (by simp only [Int32.reduceToInt]; omega) (by simp only [Int32.reduceToInt]; omega)
    have key := ih (i + 1) (by omega) (by omega)
    rw [exF, w25_25]
    rcases Classical.propComplete (wrp s (b + i) = sI s 8) with e | e <;> simp +decide only [w25_27, w25_28, w25_31, w25_32, w25_33, w25_35, w25_36, w25_39, w25_40, w25_43, w25_46, w25_48, w25_49, w25_52, isO_put, Option.toList_some, List.cons_append, List.nil_append, true_and, and_true, ↓reduceIte, g8, h1, t12 hE.n0, e, key]
theorem t25 (hE : Ev s) (hb : 0 ≤ b.toInt ∧ b.toInt < 128) (hc : 0 ≤ c.toInt ∧ c.toInt ≤ 1000) : Cl (pj lw) 25 [.ref p, .int a, .int b, .int c] (ob H p s) Q ↔ Q (some (.int (exP s a b c))) (ob H p s) := by
  have hx : 0 ≤ b.toInt ∧ b.toInt < 384 := by omega
  have L := l25 (lw := lw) (H := H) (p := p) (Q := Q) (k := 0) (n := 0) (a := a) (b := b) hE hc c.toInt.toNat 1 (by simp only [Int32.reduceToInt]; omega) (by decide)
  rw [c25]; unfold exP
  rcases Classical.propComplete (a = 0) with e1 | e1 <;> rcases Classical.propComplete (sI s 8 < 0) with e2 | e2 <;> rcases Classical.propComplete (sA s 5 b.toNatClampNeg = 0) with e3 | e3 <;> (first | subst e1 | skip) <;>
  simp +decide only [w25_0, w25_1, w25_4, w25_5, w25_8, w25_11, w25_12, w25_15, w25_16, w25_17, w25_20, w25_21, w25_22, w25_23, isO_put, true_and, and_true, and_false, or_true, not_true_eq_false, not_false_eq_true, ↓reduceIte, g8, g26, ai5, ain5, ae5, ain5, hx, e1, e2, e3, L]
def dt1 (c : Int32) (s : St) (d : Nat) : St := if ¬ sA s 12 d < 0 ∧ c = sA s 12 d then uB s 13 d (sB s 13 d + 1) else s
def cp0 (s : St) (c : Int32) : St := if ¬ sI s 4 < 0 ∧ c = sI s 4 then uJ s 18 (sJ s 18 + 1) else s
def cp1 (s : St) (c : Int32) : St := itF (dt1 c) 4 0 (cp0 s c)
def cpF (p : Int32) : Nat → Int32 → St → St
  | 0, _, s => s
  | m + 1, k, s => cpF p m (k + 1) (cp1 s (wrp s (p + k)))
def cpS (s : St) (p n : Int32) : St := cpF p n.toInt.toNat 1 s
theorem cp1_kp (hE : Ev s) : Ev (cp1 s c) ∧ (∀ x, sI (cp1 s c) x = sI s x) ∧ ∀ t i, sA (cp1 s c) t i = sA s t i := by
  have h0 : Ev (cp0 s c) ∧ (∀ x, sI (cp0 s c) x = sI s x) ∧ ∀ t i, sA (cp0 s c) t i = sA s t i := by
    unfold cp0; split
    · exact ⟨Ev_uJ hE, fun _ => sI_uJ, fun _ _ => sA_uJ⟩
    · exact ⟨hE, fun _ => rfl, fun _ _ => rfl⟩
  refine itF_inv (f := dt1 c) (I := fun v => Ev v ∧ (∀ x, sI v x = sI s x) ∧ ∀ t i, sA v t i = sA s t i) (fun v e g => ?_) 4 0 _ h0
  unfold dt1; split
  · exact ⟨Ev_uB g.1, fun x => by rw [sI_uB]; exact g.2.1 x, fun t i => by rw [sA_uB]; exact g.2.2 t i⟩
  · exact g
theorem cpF_kp : ∀ (m : Nat) (k : Int32) (s : St), Ev s → Ev (cpF a m k s) ∧ (∀ x, sI (cpF a m k s) x = sI s x) ∧ ∀ t i, sA (cpF a m k s) t i = sA s t i
  | 0, _, _, hE => ⟨hE, fun _ => rfl, fun _ _ => rfl⟩
  | m + 1, k, s, hE => by
    obtain ⟨a1, a2, a3⟩ := cp1_kp (c := wrp s (a + k)) hE
    obtain ⟨b1, b2, b3⟩ := cpF_kp m (k + 1) _ a1
    exact ⟨b1, fun x => (b2 x).trans (a2 x), fun t i => (b3 t i).trans (a3 t i)⟩
theorem l26b (m : Nat) : ∀ (i : Int32) (s : St), i.toInt = 4 - m → 0 ≤ i.toInt →
    (W (pj lw) 26 45 [.val (.ref p), .val (.int a), .val (.int b), .val (.int c), .val (.int d), .val (.int i)] [] k n (ob H p s) Q ↔ W (pj lw) 26 90 [.val (.ref p), .val (.int a), .val (.int b), .val (.int c), .val (.int d), .val (.int 4)] [] k n (ob H p (itF (dt1 d) m i.toNatClampNeg s)) Q) := by
  induction m with
  | zero =>
    intro i s hi h0
    have h1 : ¬ i < 4 := by rw [lt32]; simp only [Int32.reduceToInt]; omega
    have e : i = 4 := by rw [eq32]; simp only [Int32.reduceToInt]; omega
    rw [w26_45]; simp +decide only [w26_47, w26_48, ↓reduceIte, h1]
    rw [e]; rfl
  | succ m ih =>
    intro i s hi h0
    have h1 : i < 4 := by rw [lt32]; simp only [Int32.reduceToInt]; omega
    have h2 : (i + 1).toInt = i.toInt + 1 := ia (by simp only [Int32.reduceToInt]; omega) (by simp only [Int32.reduceToInt]; omega)
    have h4 : (i + 1).toNatClampNeg = i.toNatClampNeg + 1 := by rw [cln, cln]; omega
    have hx : 0 ≤ i.toInt ∧ i.toInt < 4 := by omega
    have key := ih (i + 1) (dt1 d s i.toNatClampNeg) (by omega) (by omega)
    rw [h4] at key
    rw [itF, w26_45, ← key]; unfold dt1
    rcases Classical.propComplete (sA s 12 i.toNatClampNeg < 0) with e1 | e1 <;> rcases Classical.propComplete (d = sA s 12 i.toNatClampNeg) with e2 | e2 <;>
    simp +decide only [w26_47, w26_48, w26_51, w26_52, w26_55, w26_57, w26_58, w26_61, w26_63, w26_64, w26_67, w26_69, w26_70, w26_73, w26_74, w26_77, w26_79, w26_80, w26_81, w26_82, w26_83, w26_84, w26_87, isO_put, true_and, and_true, and_false, not_true_eq_false, not_false_eq_true, ↓reduceIte, g33, g34, ai12, ae12, ai13, aw13, ae13, as13, h1, hx, e1, e2]
theorem l26 (hc : 0 ≤ b.toInt ∧ b.toInt ≤ 1000) (m : Nat) : ∀ (i : Int32) (s : St), Ev s → i.toInt = b.toInt + 1 - m → 0 ≤ i.toInt → ∀ l4 l5 : Slot, ((l4 = .unset ∧ l5 = .unset) ∨ ∃ u v, l4 = .val (.int u) ∧ l5 = .val (.int v)) →
    (W (pj lw) 26 2 [.val (.ref p), .val (.int a), .val (.int b), .val (.int i), l4, l5] [] k n (ob H p s) Q ↔ Q none (ob H p (cpF a m i s))) := by
  induction m with
  | zero =>
    intro i s hE hi h0 l4 l5 hl
    have h1 : b < i := by rw [lt32]; omega
    rw [w26_2]; simp +decide only [w26_3, w26_4, w26_96, ↓reduceIte, h1, cpF]
  | succ m ih =>
    intro i s hE hi h0 l4 l5 hl
    have h1 : ¬ b < i := by rw [lt32]; omega
    have h2 : (i + 1).toInt = i.toInt + 1 := ia (by simp only [Int32.reduceToInt]; omega) (by simp only [Int32.reduceToInt]; omega)
    have key := fun u v => ih (i + 1) (cp1 s (wrp s (a + i))) (cp1_kp hE).1 (by omega) (by omega) (.val (.int u)) (.val (.int v)) (Or.inr ⟨u, v, rfl, rfl⟩)
    have inn := fun (s : St) (d : Int32) => l26b (lw := lw) (H := H) (p := p) (Q := Q) (k := k) (n := n) (a := a) (b := b) (c := i) (d := d) 4 0 s (by decide) (by decide)
    simp only [Int32.reduceToNatClampNeg] at inn
    rw [cpF, w26_2]; unfold cp1 cp0 at key ⊢
    rcases Classical.propComplete (sI s 4 < 0) with e1 | e1 <;> rcases Classical.propComplete (wrp s (a + i) = sI s 4) with e2 | e2 <;> rcases hl with ⟨rfl, rfl⟩ | ⟨u, v, rfl, rfl⟩ <;>
    · simp +decide only [e1, e2, and_true, and_false, not_true_eq_false, not_false_eq_true, ↓reduceIte] at key
      simp +decide only [w26_3, w26_4, w26_7, w26_8, w26_9, w26_10, w26_11, w26_14i, w26_14, w26_16, w26_17, w26_20, w26_23, w26_25, w26_26, w26_29, w26_32, w26_33, w26_34, w26_37, w26_38, w26_39, w26_42, w26_43i, w26_43, w26_90, w26_93, isO_put, isOw_put, okv_long, Option.toList_some, List.cons_append, List.nil_append, true_and, and_true, and_false, not_true_eq_false, not_false_eq_true, ↓reduceIte, g4, g18, s18, h1, t12 hE.n0, e1, e2, inn, key]
theorem t26 (hE : Ev s) (hc : 0 ≤ b.toInt ∧ b.toInt ≤ 1000) : Cl (pj lw) 26 [.ref p, .int a, .int b] (ob H p s) Q ↔ Q none (ob H p (cpS s a b)) := by
  rw [c26]; simp +decide only [w26_0, w26_1]
  rw [l26 hc b.toInt.toNat 1 s hE (by simp only [Int32.reduceToInt]; omega) (by decide) .unset .unset (Or.inl ⟨rfl, rfl⟩)]; rfl
def mv0 (s : St) (v : Int32) : St := uJ s 16 (sJ s 16 + v.toInt64)
def mvX (s : St) : St := uI (uJ s 14 (sJ s 14 + 1)) 12 (sI s 12 - 1)
def mvP (s : St) (t v : Int32) (i : Nat) : St := uA (uA (uA (uA s 6 t.toNatClampNeg 1) 7 t.toNatClampNeg v) 8 t.toNatClampNeg (sA s 4 i)) 9 t.toNatClampNeg (sA s 5 i)
def mvv (s : St) (l p v : Int32) : St :=
  if 0 < exP (mv0 s v) l p v then mvX (cpS (mv0 s v) p (exP (mv0 s v) l p v))
  else mvP (cpS (mv0 s v) p v) (l * 128 + wrp s (p + v)) v (l * 128 + p).toNatClampNeg
def mvS (s : St) (l p : Int32) : St := mvv s l p (sA s 11 (l * 128 + p).toNatClampNeg)
theorem exF_rg : ∀ (m : Nat) (i : Int32), 1 ≤ i.toInt → i.toInt + m ≤ 1001 → 0 ≤ (exF s a m i).toInt ∧ (exF s a m i).toInt < i.toInt + m
  | 0, i, h1, h2 => by simp only [exF, Int32.reduceToInt]; omega
  | m + 1, i, h1, h2 => by
    have e : (i + 1).toInt = i.toInt + 1 := ia (by simp only [Int32.reduceToInt]; omega) (by simp only [Int32.reduceToInt]; omega)
    rw [exF]; split
    · omega
    · have := exF_rg m (i + 1) (by omega) (by omega); omega
theorem exP_rg (hc : 0 ≤ c.toInt ∧ c.toInt ≤ 1000) : 0 ≤ (exP s a b c).toInt ∧ (exP s a b c).toInt ≤ c.toInt := by
  unfold exP; split
  · have := exF_rg (s := s) (a := b) c.toInt.toNat 1 (by decide) (by simp only [Int32.reduceToInt]; omega)
    simp only [Int32.reduceToInt] at this; omega
  · simp only [Int32.reduceToInt]; omega
theorem mv0_kp {v : Int32} (hE : Ev s) : Ev (mv0 s v) ∧ (∀ x, sI (mv0 s v) x = sI s x) ∧ ∀ t i, sA (mv0 s v) t i = sA s t i := ⟨Ev_uJ hE, fun _ => sI_uJ, fun _ _ => sA_uJ⟩
theorem cpS_kp (hE : Ev s) : Ev (cpS s a b) ∧ (∀ x, sI (cpS s a b) x = sI s x) ∧ ∀ t i, sA (cpS s a b) t i = sA s t i := cpF_kp _ _ _ hE
theorem wrp_of {x : Int32} (h : sI s' 0 = sI s 0) : wrp s' x = wrp s x := by unfold wrp; rw [h]
theorem Kp_mv : Kp mvS := by
  intro s l p hE hl hp
  have hv : vr s (sA s 11 (l * 128 + p).toNatClampNeg) := Evv hE (by simp)
  unfold mvS mvv
  generalize sA s 11 (l * 128 + p).toNatClampNeg = v at *
  obtain ⟨a1, a2, a3⟩ := mv0_kp (v := v) hE
  split
  · obtain ⟨b1, b2, b3⟩ := cpS_kp (a := p) (b := exP (mv0 s v) l p v) a1
    exact ⟨Ev_uI (Ev_uJ b1) (by decide), fun x h1 h2 => by simp only [mvX, sI_uI, sI_uJ, if_neg h2]; exact (b2 x).trans (a2 x)⟩
  · obtain ⟨b1, b2, b3⟩ := cpS_kp (a := p) (b := v) a1
    refine ⟨Ev_uA (Ev_uA (Ev_uA (Ev_uA b1 (fun _ => Or.inr rfl) (by omega)) (by omega) (fun _ => ?_)) (by omega) (by omega)) (fun _ => Evb b1 (by simp)) (by omega), fun x h1 h2 => by simp only [mvP, sI_uA]; exact (b2 x).trans (a2 x)⟩
    unfold vr at *; simp only [sI_uA]; rw [b2, a2]; exact hv
theorem t24 (hE : Ev s) (ha : 0 ≤ a.toInt ∧ a.toInt < (sI s 1).toInt) (hb : 0 ≤ b.toInt ∧ b.toInt < 128) : Cl (pj lw) 24 [.ref p, .int a, .int b] (ob H p s) Q ↔ Q none (ob H p (mvS s a b)) := by
  have hn := hE.2.1
  have hx := (ixr (a := a) (b := b) (by omega) hb).2
  have hv : vr s (sA s 11 (a * 128 + b).toNatClampNeg) := Evv hE (by simp)
  have hm := hE.2.2.1
  rw [c24]; unfold mvS mvv
  generalize hvv : sA s 11 (a * 128 + b).toNatClampNeg = v at *
  unfold vr at hv
  obtain ⟨a1, a2, a3⟩ := mv0_kp (v := v) hE
  have hc : 0 ≤ v.toInt ∧ v.toInt ≤ 1000 := by omega
  have he := exP_rg (s := mv0 s v) (a := a) (b := b) hc
  obtain ⟨b1, b2, b3⟩ := cpS_kp (a := b) (b := v) a1
  have hz : ¬ sI (cpS (mv0 s v) b v) 0 = 0 := by rw [b2, a2]; exact hE.n0
  have ew : wrp (cpS (mv0 s v) b v) (b + v) = wrp s (b + v) := wrp_of (by rw [b2, a2])
  have hw := wrp_rg (a := b + v) hE
  have hy := (ixr (a := a) (b := wrp s (b + v)) (by omega) (by have := hE.1; omega)).2
  have h5 : sA s 5 (a * 128 + b).toNatClampNeg = 0 ∨ sA s 5 (a * 128 + b).toNatClampNeg = 1 := Evb hE (by simp)
  have e0 : uJ s 16 (sJ s 16 + v.toInt64) = mv0 s v := rfl
  have A5 := b3 5 (a * 128 + b).toNatClampNeg
  have A4 := b3 4 (a * 128 + b).toNatClampNeg
  rw [a3] at A5 A4
  by_cases e : 0 < exP (mv0 s v) a b v
  · rw [if_pos e]
    simp +decide only [w24_0, w24_1, w24_4, w24_5, w24_6, w24_7, w24_8, w24_9, w24_12, w24_13, w24_14, w24_16, w24_17, w24_18, w24_21, w24_23, w24_24, w24_25, w24_28, w24_29, w24_30, w24_31, w24_33, w24_36, w24_38, w24_40, w24_43, w24_44, w24_45, w24_47, w24_50, w24_51, w24_52, w24_55, w24_56, w24_57, w24_60, w24_61, w24_62, w24_65, w24_66, w24_67, w24_70, isO_put, isOw_put, okv_int, okv_long, sI_uJ, Option.toList_some, Option.toList_none, List.cons_append, List.nil_append, true_and, and_true, ↓reduceIte, g12, s12, g14, s14, g16, s16, g32, ai11, ae11, hx, hvv, e0, t25 a1 hb hc, t26 (b := exP (mv0 s v) a b v) a1 (by omega), e, mvX]
  · rw [if_neg e]
    simp +decide only [w24_0, w24_1, w24_4, w24_5, w24_6, w24_7, w24_8, w24_9, w24_12, w24_13, w24_14, w24_16, w24_17, w24_18, w24_21, w24_23, w24_24, w24_25, w24_28, w24_29, w24_30, w24_31, w24_33, w24_36, w24_38, w24_40, w24_71, w24_72, w24_73, w24_75, w24_78, w24_79, w24_80, w24_82, w24_83, w24_86, w24_88, w24_89, w24_92, w24_93, w24_95, w24_96, w24_98, w24_99, w24_102, w24_104, w24_105, w24_106, w24_107, w24_110, w24_112, w24_114, w24_115, w24_116, w24_119, w24_121, w24_122, w24_125, w24_126, w24_127, w24_128, w24_129, w24_132, w24_134, w24_135, w24_138, w24_139, w24_140, w24_141, isO_put, isOw_put, okv_long, okv_bool, okv_byte, sA_uA, Option.toList_some, Option.toList_none, List.cons_append, List.nil_append, true_and, and_true, false_and, or_true, ↓reduceIte, Nat.reduceAdd, Nat.reduceLeDiff, Int32.reduceAdd, Int64.reduceAdd, Nat.add_zero, g16, s16, g25, g26, g27, g28, g29, g30, g32, ai4, ae4, ai5, ain5, ae5, aw6, awn6, as6, aw7, as7, aw8, as8, aw9, awn9, as9, ai11, ae11, awn6, awn9, ain5, hx, hy, h5, hvv, e0, t25 a1 hb hc, t26 (b := v) a1 hc, t12 hz, ew, e, mvP, A4, A5]
def nz0 (s : St) (i : Nat) : St := uA (uA (uA (uA s 6 i 0) 7 i 0) 8 i 0) 9 i 0
def cpy (s : St) (i : Nat) : St := uA (uA (uA (uA s 2 i (sA s 6 i)) 3 i (sA s 7 i)) 4 i (sA s 8 i)) 5 i (sA s 9 i)
theorem Ev_nz0 {i : Nat} (hE : Ev s) : Ev (nz0 s i) :=
  Ev_uA (Ev_uA (Ev_uA (Ev_uA hE (fun _ => Or.inl rfl) (by omega)) (by omega) (fun _ => by unfold vr; simp only [sI_uA, Int32.reduceToInt]; have := hE.2.2.1; omega)) (by omega) (by omega)) (fun _ => Or.inl rfl) (by omega)
theorem Ev_cpy {i : Nat} (hE : Ev s) : Ev (cpy s i) :=
  Ev_uA (Ev_uA (Ev_uA (Ev_uA hE (by omega) (by omega)) (by omega) (fun _ => by have := Evv (t := 7) (i := i) hE (by simp); unfold vr at *; simp only [sI_uA]; exact this)) (by omega) (by omega)) (fun _ => Evb hE (by simp)) (by omega)

theorem l23_2 {l2 : Slot} (m : Nat) : ∀ (q : Int32) (s : St), q.toInt = 384 - m → 0 ≤ q.toInt →
    (W (pj lw) 23 2 [.val (.ref p), .val (.int q), l2] [] k n (ob H p s) Q ↔ W (pj lw) 23 43 [.val (.ref p), .val (.int 384), l2] [] k n (ob H p (itF nz0 m q.toNatClampNeg s)) Q) := by
  induction m with
  | zero =>
    intro q s hq h0
    have h1 : ¬ q < 384 := by rw [lt32]; simp only [Int32.reduceToInt]; omega
    have e : q = 384 := by rw [eq32]; simp only [Int32.reduceToInt]; omega
    rw [w23_2]; simp +decide only [w23_3, w23_6, ↓reduceIte, h1]
    rw [e]; rfl
  | succ m ih =>
    intro q s hq h0
    have h1 : q < 384 := by rw [lt32]; simp only [Int32.reduceToInt]; omega
    have h2 : (q + 1).toInt = q.toInt + 1 := ia (by simp only [Int32.reduceToInt]; omega) (by simp only [Int32.reduceToInt]; omega)
    have h4 : (q + 1).toNatClampNeg = q.toNatClampNeg + 1 := by rw [cln, cln]; omega
    have hx : 0 ≤ q.toInt ∧ q.toInt < 384 := by omega
    have key := ih (q + 1) (nz0 s q.toNatClampNeg) (by omega) (by omega)
    rw [h4] at key
    rw [itF, w23_2, ← key]; unfold nz0
    simp +decide only [w23_3, w23_6, w23_9, w23_10, w23_13, w23_14, w23_15, w23_16, w23_17, w23_20, w23_21, w23_22, w23_23, w23_24, w23_27, w23_28, w23_29, w23_30, w23_31, w23_34, w23_35, w23_36, w23_37, w23_40, isO_put, true_and, and_true, or_true, ↓reduceIte, g27, g28, g29, g30, aw6, awn6, as6, aw7, as7, aw8, as8, aw9, awn9, as9, awn6, awn9, h1, hx]

theorem l23_55 (hK : Kp (ifo mvS)) (m : Nat) : ∀ (q : Int32) (s : St), Ev s → (0 ≤ a.toInt ∧ a.toInt < (sI s 1).toInt) → q.toInt = (sI s 0).toInt - m → 0 ≤ q.toInt →
    (W (pj lw) 23 55 [.val (.ref p), .val (.int a), .val (.int q)] [] k n (ob H p s) Q ↔ W (pj lw) 23 90 [.val (.ref p), .val (.int a), .val (.int (sI s 0))] [] k n (ob H p (lpF (ifo mvS) a m q.toNatClampNeg s)) Q) := by
  induction m with
  | zero =>
    intro q s hE ha hq h0
    have h1 : ¬ q < sI s 0 := by rw [lt32]; omega
    have e : q = sI s 0 := by rw [eq32]; omega
    rw [w23_55]; simp +decide only [w23_56, w23_57, w23_60, isO_put, true_and, ↓reduceIte, g0, h1]
    rw [e]; rfl
  | succ m ih =>
    intro q s hE ha hq h0
    have hb := hE.1
    have hn := hE.2.1
    have h1 : q < sI s 0 := by rw [lt32]; omega
    have h2 : (q + 1).toInt = q.toInt + 1 := ia (by simp only [Int32.reduceToInt]; omega) (by simp only [Int32.reduceToInt]; omega)
    have h4 : (q + 1).toNatClampNeg = q.toNatClampNeg + 1 := by rw [cln, cln]; omega
    have hof := ofn (i := q) (by omega)
    have hx := (ixr (a := a) (b := q) (by omega) (by omega)).2
    obtain ⟨k1, k2⟩ := hK s a q hE ha (by omega)
    have key := ih (q + 1) (ifo mvS s a q) k1 (by rw [k2 1 (by decide) (by decide)]; exact ha) (by rw [k2 0 (by decide) (by decide)]; omega) (by omega)
    rw [h4, k2 0 (by decide) (by decide)] at key
    have A1 := fun (Q : Option Value → AH → Prop) => t24 (lw := lw) (H := H) (p := p) (Q := Q) (a := a) (b := q) hE ha (by omega)
    have eF : lpF (ifo mvS) a (m + 1) q.toNatClampNeg s = lpF (ifo mvS) a m (q.toNatClampNeg + 1) (ifo mvS s a q) := by unfold lpF; rw [itF, hof]
    rw [w23_55, eF, ← key]
    unfold ifo occ
    rcases Classical.propComplete (sA s 2 (a * 128 + q).toNatClampNeg = 0) with e | e <;>
    simp +decide only [w23_56, w23_57, w23_60, w23_63, w23_64, w23_67, w23_68, w23_71, w23_72, w23_73, w23_74, w23_75, w23_78, w23_79, w23_80, w23_81, w23_84, w23_87, isO_put, Option.toList_none, List.nil_append, true_and, and_true, or_true, not_true_eq_false, not_false_eq_true, ↓reduceIte, g0, g23, ai2, ain2, ae2, ain2, hx, h1, e, A1, decide_true, decide_false]
theorem l23_45 (hK : Kp (ifo mvS)) {R : St → Prop} (m : Nat) : ∀ (i : Int32) (s : St), Ev s → i.toInt = (sI s 1).toInt - m → 0 ≤ i.toInt → ∀ l2 : Slot, (l2 = .unset ∨ ∃ v, l2 = .val (.int v)) →
    (∀ (l2 : Slot), (l2 = .unset ∨ ∃ v, l2 = .val (.int v)) → (W (pj lw) 23 96 [.val (.ref p), .val (.int (sI s 1)), l2] [] k n (ob H p (lnF (ifo mvS) m i.toNatClampNeg s)) Q ↔ R (lnF (ifo mvS) m i.toNatClampNeg s))) →
    (W (pj lw) 23 45 [.val (.ref p), .val (.int i), l2] [] k n (ob H p s) Q ↔ R (lnF (ifo mvS) m i.toNatClampNeg s)) := by
  induction m with
  | zero =>
    intro i s hE hi h0 l2 hl hR
    have h1 : ¬ i < sI s 1 := by rw [lt32]; omega
    have e : i = sI s 1 := by rw [eq32]; omega
    have key := hR l2 hl
    rw [← e] at key
    rw [w23_45]; simp +decide only [w23_46, w23_47, w23_50, isO_put, true_and, ↓reduceIte, g1, h1]
    exact key
  | succ m ih =>
    intro i s hE hi h0 l2 hl hR
    have hb := hE.1
    have hn := hE.2.1
    have h1 : i < sI s 1 := by rw [lt32]; omega
    have h2 : (i + 1).toInt = i.toInt + 1 := ia (by simp only [Int32.reduceToInt]; omega) (by simp only [Int32.reduceToInt]; omega)
    have h4 : (i + 1).toNatClampNeg = i.toNatClampNeg + 1 := by rw [cln, cln]; omega
    have hof := ofn (i := i) (by omega)
    have eF : lnF (ifo mvS) (m + 1) i.toNatClampNeg s = lnF (ifo mvS) m (i.toNatClampNeg + 1) (lpF (ifo mvS) i (sI s 0).toInt.toNat 0 s) := by unfold lnF; rw [itF, hof]
    obtain ⟨k1, k2⟩ := lpF_kp hK (l := i) (sI s 0).toInt.toNat 0 s hE (by omega) (by omega)
    have key := ih (i + 1) (lpF (ifo mvS) i (sI s 0).toInt.toNat 0 s) k1 (by rw [k2 1 (by decide) (by decide)]; omega) (by omega) (.val (.int (sI s 0))) (Or.inr ⟨_, rfl⟩) (by
      intro l3 hl3
      have := hR l3 hl3
      rw [eF] at this; rw [h4, k2 1 (by decide) (by decide)]; exact this)
    rw [h4] at key
    have inn := l23_55 (lw := lw) (H := H) (p := p) (Q := Q) (k := k) (n := n) (a := i) hK (sI s 0).toInt.toNat 0 s hE (by omega) (by simp only [Int32.reduceToInt]; omega) (by decide)
    simp only [Int32.reduceToNatClampNeg] at inn
    rw [w23_45, eF, ← key]
    rcases hl with rfl | ⟨v, rfl⟩ <;> simp +decide only [w23_46, w23_47, w23_50, w23_53, w23_54i, w23_54, isO_put, true_and, ↓reduceIte, g1, h1, inn, w23_90, w23_93]

theorem l23_98 {l2 : Slot} (m : Nat) : ∀ (q : Int32) (s : St), Ev s → q.toInt = 384 - m → 0 ≤ q.toInt →
    (W (pj lw) 23 98 [.val (.ref p), .val (.int q), l2] [] k n (ob H p s) Q ↔ W (pj lw) 23 159 [.val (.ref p), .val (.int 384), l2] [] k n (ob H p (itF cpy m q.toNatClampNeg s)) Q) := by
  induction m with
  | zero =>
    intro q s hE hq h0
    have h1 : ¬ q < 384 := by rw [lt32]; simp only [Int32.reduceToInt]; omega
    have e : q = 384 := by rw [eq32]; simp only [Int32.reduceToInt]; omega
    rw [w23_98]; simp +decide only [w23_99, w23_102, ↓reduceIte, h1]
    rw [e]; rfl
  | succ m ih =>
    intro q s hE hq h0
    have h1 : q < 384 := by rw [lt32]; simp only [Int32.reduceToInt]; omega
    have h2 : (q + 1).toInt = q.toInt + 1 := ia (by simp only [Int32.reduceToInt]; omega) (by simp only [Int32.reduceToInt]; omega)
    have h4 : (q + 1).toNatClampNeg = q.toNatClampNeg + 1 := by rw [cln, cln]; omega
    have hx : 0 ≤ q.toInt ∧ q.toInt < 384 := by omega
    have b6 : sA s 6 q.toNatClampNeg = 0 ∨ sA s 6 q.toNatClampNeg = 1 := Evb hE (by simp)
    have b9 : sA s 9 q.toNatClampNeg = 0 ∨ sA s 9 q.toNatClampNeg = 1 := Evb hE (by simp)
    have key := ih (q + 1) (cpy s q.toNatClampNeg) (Ev_cpy hE) (by omega) (by omega)
    rw [h4] at key
    rw [itF, w23_98, ← key]; unfold cpy
    simp +decide only [w23_99, w23_102, w23_105, w23_106, w23_109, w23_110, w23_111, w23_114, w23_115, w23_116, w23_117, w23_118, w23_121, w23_122, w23_123, w23_126, w23_127, w23_128, w23_129, w23_130, w23_133, w23_134, w23_135, w23_138, w23_139, w23_140, w23_141, w23_142, w23_145, w23_146, w23_147, w23_150, w23_151, w23_152, w23_153, w23_156, isO_put, okv_bool, okv_byte, sA_uA, true_and, and_true, false_and, or_true, ↓reduceIte, g23, g24, g25, g26, g27, g28, g29, g30, aw2, awn2, as2, aw3, as3, aw4, as4, aw5, awn5, as5, ai6, ain6, ae6, ai7, ae7, ai8, ae8, ai9, ain9, ae9, awn2, awn5, ain6, ain9, h1, hx, b6, b9]

def mvA0 (s : St) : St := itF nz0 384 0 s
def mvA1 (s : St) : St := rdA (ifo mvS) (mvA0 s)
def mvA (s : St) : St := itF cpy 384 0 (mvA1 s)
theorem mvA0_kp (hE : Ev s) : Ev (mvA0 s) ∧ ∀ x, sI (mvA0 s) x = sI s x := ⟨itF_inv (I := Ev) (fun v e g => Ev_nz0 g) _ _ _ hE, fun x => itF_inv (I := fun v => sI v x = sI s x) (fun v e g => by unfold nz0; simp only [sI_uA]; exact g) _ _ _ rfl⟩
theorem mvA1_kp (hE : Ev s) : Ev (mvA1 s) ∧ ∀ x, x ≠ 3 → x ≠ 12 → sI (mvA1 s) x = sI s x := by
  obtain ⟨a1, a2⟩ := mvA0_kp hE
  obtain ⟨b1, b2⟩ := rdA_kp (Kp_ifo Kp_mv) a1
  exact ⟨b1, fun x h1 h2 => (b2 x h1 h2).trans (a2 x)⟩
theorem cpy_I (x : Nat) : sI (itF cpy 384 0 s) x = sI s x := itF_inv (I := fun v => sI v x = sI s x) (fun v e g => by unfold cpy; simp only [sI_uA]; exact g) _ _ _ rfl
theorem mvA_kp (hE : Ev s) : Ev (mvA s) ∧ ∀ x, x ≠ 3 → x ≠ 12 → sI (mvA s) x = sI s x := by
  obtain ⟨a1, a2⟩ := mvA1_kp hE
  exact ⟨itF_inv (I := Ev) (fun v e g => Ev_cpy g) _ _ _ a1, fun x h1 h2 => (cpy_I x).trans (a2 x h1 h2)⟩
theorem t23 (hE : Ev s) : Cl (pj lw) 23 [.ref p] (ob H p s) Q ↔ Q none (ob H p (mvA s)) := by
  obtain ⟨a1, a2⟩ := mvA0_kp hE
  obtain ⟨b1, b2⟩ := mvA1_kp hE
  rw [c23]; simp +decide only [w23_0, w23_1]
  rw [l23_2 384 0 s (by decide) (by decide)]
  simp +decide only [w23_43, w23_44i, Int32.reduceToNatClampNeg, Int32.reduceToNatClampNeg]
  have L2 := l23_45 (lw := lw) (H := H) (p := p) (Q := Q) (k := 0) (n := 0) (Kp_ifo Kp_mv) (R := fun v => Q none (ob H p (itF cpy 384 0 v))) (sI (mvA0 s) 1).toInt.toNat 0 (mvA0 s) a1 (by simp only [Int32.reduceToInt]; have := a1.2.1; omega) (by decide) .unset (Or.inl rfl)
  simp only [Int32.reduceToNatClampNeg] at L2
  refine L2 fun l2 hl => ?_
  have L3 := fun (l2 : Slot) => l23_98 (lw := lw) (H := H) (p := p) (Q := Q) (k := 0) (n := 0) (l2 := l2) 384 0 (mvA1 s) b1 (by decide) (by decide)
  simp only [Int32.reduceToNatClampNeg] at L3
  rcases hl with rfl | ⟨v, rfl⟩ <;>
  · simp +decide only [w23_96, w23_97i]
    exact (L3 _).trans (by simp +decide only [w23_159]; rfl)
end C

section D
variable {lw : LW} {H : AH} {p j : Nat} {s s' : St} {Q : Option Value → AH → Prop} {a b c d : Int32} {h : Nat → Cel} {k n : Nat}
def pvS (s : St) (i v e : Int32) : St := uI (uJ (uA (uA (uA (uA s 2 i.toNatClampNeg 1) 3 i.toNatClampNeg v) 4 i.toNatClampNeg (sJ s 13).toInt32) 5 i.toNatClampNeg e) 13 (sJ s 13 + 1)) 12 (sI s 12 + 1)
theorem t6 (hx : 0 ≤ a.toInt ∧ a.toInt < 384) (hc : c = 0 ∨ c = 1) : Cl (pj lw) 6 [.ref p, .int a, .int b, .int c] (ob H p s) Q ↔ Q none (ob H p (pvS s a b c)) := by
  rw [c6]; unfold pvS
  simp +decide only [w6_0, w6_1, w6_4, w6_5, w6_6, w6_7, w6_8, w6_11, w6_12, w6_13, w6_14, w6_15, w6_18, w6_19, w6_20, w6_23, w6_24, w6_25, w6_26, w6_29, w6_30, w6_31, w6_32, w6_33, w6_34, w6_37, w6_38, w6_39, w6_42, w6_43, w6_44, w6_47, w6_48, w6_49, w6_52, isO_put, isOw_put, okv_int, okv_long, okv_bool, okv_byte, sI_uJ, sI_uA, sJ_uA, true_and, and_true, false_and, or_true, g12, s12, g13, s13, g23, g24, g25, g26, aw2, awn2, as2, aw3, as3, aw4, as4, aw5, awn5, as5, awn2, awn5, hx, hc]
theorem pv_kp (hE : Ev s) (hb : vr s b) (hc : c = 0 ∨ c = 1) : Ev (pvS s a b c) ∧ ∀ x, x ≠ 12 → sI (pvS s a b c) x = sI s x :=
  ⟨Ev_uI (Ev_uJ (Ev_uA (Ev_uA (Ev_uA (Ev_uA hE (by omega) (by omega)) (by omega) (fun _ => by unfold vr at *; simp only [sI_uA]; exact hb)) (by omega) (by omega)) (fun _ => hc) (by omega))) (by decide), fun x h1 => by simp only [pvS, sI_uI, sI_uJ, sI_uA, if_neg h1]⟩
def mg1 (s : St) : St := uI (uI s 21 ((sI s 21 + 1) % 16)) 22 (sI s 22 - 1)
def mg2 (s : St) : St := pvS (mg1 s) (sI s 7) 0 (sA s 1 (sI s 21).toNatClampNeg)
def mgc (s : St) : Prop := ¬ sI s 7 < 0 ∧ sI s 7 < sI s 0 ∧ ¬ sI s 22 = 0 ∧ sA s 2 (sI s 7).toNatClampNeg = 0 ∧ sb s 0 (sI s 7) = true
instance : Decidable (mgc s) := by unfold mgc; infer_instance
def mgS (s : St) : St := if mgc s then uJ (mg2 s) 19 (sJ s 19 + 1) else s
theorem mg1_Ev (hE : Ev s) (h : ¬ sI s 22 = 0) : Ev (mg1 s) := by
  have h1 := hE.2.2.2.1
  have h2 := hE.2.2.2.2.1
  rw [eq32] at h; simp only [Int32.reduceToInt] at h
  have e1 : (sI s 21 + 1).toInt = (sI s 21).toInt + 1 := ia (by simp only [Int32.reduceToInt]; omega) (by simp only [Int32.reduceToInt]; omega)
  obtain ⟨r1, r2, r3⟩ := rem_rg' (x := sI s 21 + 1) (y := 16) (by decide)
  rw [e1] at r3; simp only [Int32.reduceToInt] at r2 r3
  have r4 : 0 ≤ ((sI s 21).toInt + 1).tmod 16 := Int.tmod_nonneg _ (by omega)
  refine Ev_q hE (by omega) ?_
  rw [isb (by simp only [Int32.reduceToInt]; omega) (by simp only [Int32.reduceToInt]; omega)]; simp only [Int32.reduceToInt]; omega
theorem mg_kp (hE : Ev s) : Ev (mgS s) ∧ ∀ x, x ≠ 12 → x ≠ 21 → x ≠ 22 → sI (mgS s) x = sI s x := by
  unfold mgS; split
  · rename_i e
    obtain ⟨k1, k2⟩ := pv_kp (a := sI s 7) (b := 0) (c := sA s 1 (sI s 21).toNatClampNeg) (mg1_Ev hE e.2.2.1) (by unfold vr; simp only [Int32.reduceToInt]; have := (mg1_Ev hE e.2.2.1).2.2.1; omega) (Evb hE (by simp))
    exact ⟨Ev_uJ k1, fun x h1 h2 h3 => by rw [sI_uJ]; unfold mg2; rw [k2 x h1]; simp only [mg1, sI_uI, if_neg h2, if_neg h3]⟩
  · exact ⟨hE, fun _ _ _ _ => rfl⟩
theorem t27 (hE : Ev s) : Cl (pj lw) 27 [.ref p] (ob H p s) Q ↔ Q none (ob H p (mgS s)) := by
  have hb := hE.1
  rw [c27]; unfold mgS mgc
  by_cases e1 : sI s 7 < 0
  · simp +decide only [w27_0, w27_1, w27_4, w27_25, isO_put, true_and, false_and, not_true_eq_false, ↓reduceIte, g7, e1]
  by_cases e2 : sI s 7 < sI s 0
  rotate_left
  · simp +decide only [w27_0, w27_1, w27_4, w27_7, w27_8, w27_11, w27_12, w27_15, w27_25, isO_put, true_and, false_and, and_false, not_false_eq_true, ↓reduceIte, g0, g7, e1, e2]
  by_cases e3 : sI s 22 = 0
  · simp +decide only [w27_0, w27_1, w27_4, w27_7, w27_8, w27_11, w27_12, w27_15, w27_18, w27_19, w27_22, w27_25, isO_put, true_and, false_and, and_false, not_true_eq_false, not_false_eq_true, ↓reduceIte, g0, g7, g22, e1, e2, e3]
  have hx : 0 ≤ (sI s 7).toInt ∧ (sI s 7).toInt < 384 := by rw [lt32] at e1 e2; simp only [Int32.reduceToInt] at e1; omega
  by_cases e4 : sA s 2 (sI s 7).toNatClampNeg = 0
  rotate_left
  · simp +decide only [w27_0, w27_1, w27_4, w27_7, w27_8, w27_11, w27_12, w27_15, w27_18, w27_19, w27_22, w27_26, w27_27, w27_30, w27_31, w27_34, w27_35, w27_38, isO_put, true_and, and_true, false_and, and_false, or_true, not_false_eq_true, ↓reduceIte, g0, g7, g22, g23, ai2, ain2, ae2, ain2, hx, e1, e2, e3, e4]
  have T16 := fun (Q : Option Value → AH → Prop) => t16 (lw := lw) (H := H) (p := p) (Q := Q) (a := 0) (b := sI s 7) hE (by decide)
  rcases Bool.eq_false_or_eq_true (sb s 0 (sI s 7)) with e5 | e5
  rotate_left
  · simp +decide only [w27_0, w27_1, w27_4, w27_7, w27_8, w27_11, w27_12, w27_15, w27_18, w27_19, w27_22, w27_26, w27_27, w27_30, w27_31, w27_34, w27_35, w27_39, w27_40, w27_41, w27_42, w27_45, w27_48, w27_51, isO_put, Option.toList_some, List.cons_append, List.nil_append, true_and, and_true, and_false, or_true, not_false_eq_true, ↓reduceIte, g0, g7, g22, g23, ai2, ain2, ae2, ain2, hx, e1, e2, e3, e4, e5, T16, bz_f]
  have h21 : 0 ≤ (sI s 21).toInt ∧ (sI s 21).toInt < 16 := hE.2.2.2.1
  have h1 : sA s 1 (sI s 21).toNatClampNeg = 0 ∨ sA s 1 (sI s 21).toNatClampNeg = 1 := Evb hE (by simp)
  have eM : uI (uI s 21 ((sI s 21 + 1) % 16)) 22 (sI s 22 - 1) = mg1 s := rfl
  have T6 := fun (Q : Option Value → AH → Prop) => t6 (lw := lw) (H := H) (p := p) (s := mg1 s) (Q := Q) (b := 0) hx h1
  have e16 : ¬ (16 : Int32) = 0 := by decide
  have e19 : sJ (mg2 s) 19 = sJ s 19 := by simp +decide only [mg2, pvS, mg1, sJ_uI, sJ_uJ, sJ_uA, ↓reduceIte]
  have e7 : sI (mg1 s) 7 = sI s 7 := by simp +decide only [mg1, sI_uI, ↓reduceIte]
  have eP : pvS (mg1 s) (sI s 7) 0 (sA s 1 (sI s 21).toNatClampNeg) = mg2 s := rfl
  simp +decide only [w27_0, w27_1, w27_4, w27_7, w27_8, w27_11, w27_12, w27_15, w27_18, w27_19, w27_22, w27_26, w27_27, w27_30, w27_31, w27_34, w27_35, w27_39, w27_40, w27_41, w27_42, w27_45, w27_48, w27_52, w27_53, w27_56, w27_57, w27_60, w27_61, w27_62, w27_63, w27_64, w27_67, w27_68, w27_69, w27_71, w27_72, w27_75, w27_76, w27_77, w27_80, w27_81, w27_82, w27_85, w27_86, w27_87, w27_90, w27_91, w27_92, w27_95, w27_96, w27_97, w27_100, w27_101, w27_102, w27_105, isO_put, isOw_put, okv_int, okv_long, sI_uI, Option.toList_some, Option.toList_none, List.cons_append, List.nil_append, true_and, and_true, or_true, not_false_eq_true, ↓reduceIte, g0, g7, g19, s19, g20, g21, s21, g22, s22, g23, ai1, ain1, ae1, ai2, ain2, ae2, ain2, ain1, hx, h21, e1, e2, e3, e4, e5, T16, bz_t, eM, T6, e7, eP, e19]
def sm1 (d : Nat) (s : St) (l : Nat) : St := if occ s (Int32.ofNat l) (sA s 12 d) = true then uB (uB s 14 d (sB s 14 d + 1)) 15 d (sB s 15 d + (sA s 3 (Int32.ofNat l * 128 + sA s 12 d).toNatClampNeg).toInt64) else s
def sm2 (s : St) (d : Nat) : St := if ¬ sA s 12 d < 0 ∧ sA s 12 d < sI s 0 then
  uB (itF (sm1 d) (sI s 1).toInt.toNat 0 s) 16 d (sB (itF (sm1 d) (sI s 1).toInt.toNat 0 s) 16 d + 1) else s
def smS (s : St) : St := uJ (itF sm2 4 0 s) 15 (sJ (itF sm2 4 0 s) 15 + (sI (itF sm2 4 0 s) 12).toInt64)
def Sd (s s' : St) : Prop := (∀ x, sI s' x = sI s x) ∧ (∀ x, sJ s' x = sJ s x) ∧ ∀ t i, sA s' t i = sA s t i
theorem Sd_rfl : Sd s s := ⟨fun _ => rfl, fun _ => rfl, fun _ _ => rfl⟩
theorem Sd_uB {t i : Nat} {v : Int64} (h : Sd s s') : Sd s (uB s' t i v) := ⟨fun x => by rw [sI_uB]; exact h.1 x, fun x => by rw [sJ_uB]; exact h.2.1 x, fun t i => by rw [sA_uB]; exact h.2.2 t i⟩
theorem Ev_of (hE : Ev s) (h1 : ∀ x, sI s' x = sI s x) (h2 : ∀ t i, sA s' t i = sA s t i) : Ev s' := by unfold Ev vr; simp only [h1, h2]; exact hE
theorem Sd_sm1 {i e : Nat} (h : Sd s s') : Sd s (sm1 i s' e) := by
  unfold sm1; split
  · exact Sd_uB (Sd_uB h)
  · exact h
theorem Sd_sm1F {i m e : Nat} (h : Sd s s') : Sd s (itF (sm1 i) m e s') := itF_inv (I := Sd s) (fun v e g => Sd_sm1 g) _ _ _ h
theorem Sd_sm2 {i : Nat} (h : Sd s s') : Sd s (sm2 s' i) := by
  unfold sm2; split
  · exact Sd_uB (Sd_sm1F h)
  · exact h
theorem Sd_sm2F {m e : Nat} (h : Sd s s') : Sd s (itF sm2 m e s') := itF_inv (I := Sd s) (fun v e g => Sd_sm2 g) _ _ _ h
theorem sm_kp (hE : Ev s) : Ev (smS s) ∧ (∀ x, sI (smS s) x = sI s x) ∧ (∀ t i, sA (smS s) t i = sA s t i) ∧ ∀ x, sJ (smS s) x = if x = 15 then sJ s 15 + (sI s 12).toInt64 else sJ s x := by
  obtain ⟨h1, h2, h3⟩ := Sd_sm2F (m := 4) (e := 0) (Sd_rfl (s := s))
  have e1 : ∀ x, sI (smS s) x = sI s x := fun x => by unfold smS; rw [sI_uJ]; exact h1 x
  have e2 : ∀ t i, sA (smS s) t i = sA s t i := fun t i => by unfold smS; rw [sA_uJ]; exact h3 t i
  exact ⟨Ev_of hE e1 e2, e1, e2, fun x => by unfold smS; rw [sJ_uJ, h1, h2, h2]⟩
theorem l28b (m : Nat) : ∀ (i : Int32) (s : St), Ev s → (0 ≤ a.toInt ∧ a.toInt < 4) → b = sA s 12 a.toNatClampNeg → (0 ≤ b.toInt ∧ b.toInt < 128) → i.toInt = (sI s 1).toInt - m → 0 ≤ i.toInt → ∀ l4 : Slot, (l4 = .unset ∨ ∃ v, l4 = .val (.int v)) →
    (∀ l4 : Slot, (l4 = .unset ∨ ∃ v, l4 = .val (.int v)) → W (pj lw) 28 91 [.val (.ref p), .val (.int a), .val (.int b), .val (.int (sI s 1)), l4] [] k n (ob H p (itF (sm1 a.toNatClampNeg) m i.toNatClampNeg s)) Q) →
    W (pj lw) 28 31 [.val (.ref p), .val (.int a), .val (.int b), .val (.int i), l4] [] k n (ob H p s) Q := by
  induction m with
  | zero =>
    intro i s hE ha hb hb2 hi h0 l4 hl hR
    have h1 : ¬ i < sI s 1 := by rw [lt32]; omega
    have e : i = sI s 1 := by rw [eq32]; omega
    have key := hR l4 hl
    rw [← e] at key
    rw [w28_31]; simp +decide only [w28_32, w28_33, w28_36, isO_put, true_and, ↓reduceIte, g1, h1]
    exact key
  | succ m ih =>
    intro i s hE ha hb hb2 hi h0 l4 hl hR
    have hn := hE.2.1
    have h1 : i < sI s 1 := by rw [lt32]; omega
    have h2 : (i + 1).toInt = i.toInt + 1 := ia (by simp only [Int32.reduceToInt]; omega) (by simp only [Int32.reduceToInt]; omega)
    have h4 : (i + 1).toNatClampNeg = i.toNatClampNeg + 1 := by rw [cln, cln]; omega
    have hof := ofn (i := i) (by omega)
    have hx := (ixr (a := i) (b := b) (by omega) hb2).2
    obtain ⟨d1, d2, d3⟩ := Sd_sm1 (i := a.toNatClampNeg) (e := i.toNatClampNeg) (Sd_rfl (s := s))
    have key := fun v => ih (i + 1) (sm1 a.toNatClampNeg s i.toNatClampNeg) (Ev_of hE d1 d3) ha (by rw [d3]; exact hb) hb2 (by rw [d1]; omega) (by omega) (.val (.int v)) (Or.inr ⟨v, rfl⟩) (fun l hl => by
      have := hR l hl
      rw [itF] at this; rw [h4, d1]; exact this)
    clear ih hR
    rw [w28_31]
    unfold sm1 occ at key; rw [hof, ← hb] at key
    rcases Classical.propComplete (sA s 2 (i * 128 + b).toNatClampNeg = 0) with e | e <;> rcases hl with rfl | ⟨v, rfl⟩ <;>
    · simp +decide only [e, decide_true, decide_false, not_true_eq_false, not_false_eq_true, ↓reduceIte] at key
      simp +decide only [w28_32, w28_33, w28_36, w28_39, w28_40, w28_43, w28_44, w28_45, w28_46i, w28_46, w28_48, w28_49, w28_52, w28_54, w28_55, w28_58, w28_59, w28_62, w28_63, w28_64, w28_65, w28_66, w28_67, w28_68, w28_69, w28_72, w28_73, w28_74, w28_75, w28_76, w28_79, w28_81, w28_82, w28_83, w28_84, w28_85, w28_88, isO_put, sA_uB, sB_uB, and_true, or_true, ↓reduceIte, g1, g23, g24, g35, g36, ai2, ain2, ae2, ai3, ae3, ai14, aw14, ae14, as14, ai15, aw15, ae15, as15, ain2, hx, ha, h1, e, key]
theorem l28 {R : St → Prop} (hQ : ∀ s, (Q none (ob H p (uJ s 15 (sJ s 15 + (sI s 12).toInt64))) ↔ R s)) (m : Nat) : ∀ (i : Int32) (s : St), Ev s → i.toInt = 4 - m → 0 ≤ i.toInt → ∀ l2 l3 l4 : Slot, (l2 = .unset ∨ ∃ v, l2 = .val (.int v)) → (l3 = .unset ∨ ∃ v, l3 = .val (.int v)) → (l4 = .unset ∨ ∃ v, l4 = .val (.int v)) →
    R (itF sm2 m i.toNatClampNeg s) →
    W (pj lw) 28 2 [.val (.ref p), .val (.int i), l2, l3, l4] [] k n (ob H p s) Q := by
  induction m with
  | zero =>
    intro i s hE hi h0 l2 l3 l4 hl2 hl3 hl4 hR
    have h1 : ¬ i < 4 := by rw [lt32]; simp only [Int32.reduceToInt]; omega
    rw [w28_2]; simp +decide only [w28_3, w28_4, w28_107, w28_108, w28_109, w28_112, w28_113, w28_116, w28_117, w28_118, w28_121, isO_put, isOw_put, okv_long, true_and, and_true, ↓reduceIte, g12, g15, s15, h1]
    exact (hQ s).mpr hR
  | succ m ih =>
    intro i s hE hi h0 l2 l3 l4 hl2 hl3 hl4 hR
    have hb := hE.1
    have hn := hE.2.1
    have h1 : i < 4 := by rw [lt32]; simp only [Int32.reduceToInt]; omega
    have h2 : (i + 1).toInt = i.toInt + 1 := ia (by simp only [Int32.reduceToInt]; omega) (by simp only [Int32.reduceToInt]; omega)
    have h4 : (i + 1).toNatClampNeg = i.toNatClampNeg + 1 := by rw [cln, cln]; omega
    have hx : 0 ≤ i.toInt ∧ i.toInt < 4 := by omega
    obtain ⟨d1, d2, d3⟩ := Sd_sm2 (i := i.toNatClampNeg) (Sd_rfl (s := s))
    have key := fun u l3 l4 hl3 hl4 => ih (i + 1) (sm2 s i.toNatClampNeg) (Ev_of hE d1 d3) (by omega) (by omega) (.val (.int u)) l3 l4 (Or.inr ⟨u, rfl⟩) hl3 hl4 (by rw [h4]; rw [itF] at hR; exact hR)
    clear ih hR
    rw [w28_2]; unfold sm2 at key
    by_cases e1 : sA s 12 i.toNatClampNeg < 0
    · simp +decide only [e1, false_and, not_true_eq_false, ↓reduceIte] at key
      have := key (sA s 12 i.toNatClampNeg) l3 l4 hl3 hl4
      rcases hl2 with rfl | ⟨v, rfl⟩ <;> simp +decide only [w28_3, w28_4, w28_7, w28_8, w28_11, w28_12, w28_13i, w28_13, w28_14, w28_15, w28_101, w28_104, isO_put, true_and, and_true, ↓reduceIte, g33, ai12, ae12, h1, hx, e1] <;> exact this
    by_cases e2 : sA s 12 i.toNatClampNeg < sI s 0
    rotate_left
    · simp +decide only [e1, e2, and_false, not_false_eq_true, ↓reduceIte] at key
      have := key (sA s 12 i.toNatClampNeg) l3 l4 hl3 hl4
      rcases hl2 with rfl | ⟨v, rfl⟩ <;> simp +decide only [w28_3, w28_4, w28_7, w28_8, w28_11, w28_12, w28_13i, w28_13, w28_14, w28_15, w28_18, w28_19, w28_20, w28_23, w28_26, w28_101, w28_104, isO_put, true_and, and_true, ↓reduceIte, g0, g33, ai12, ae12, h1, hx, e1, e2] <;> exact this
    simp +decide only [e1, e2, and_true, not_false_eq_true, ↓reduceIte] at key
    have inn := l28b (lw := lw) (H := H) (p := p) (Q := Q) (k := k) (n := n) (a := i) (b := sA s 12 i.toNatClampNeg) (sI s 1).toInt.toNat 0 s hE hx rfl (by rw [lt32] at e1 e2; simp only [Int32.reduceToInt] at e1; omega) (by simp only [Int32.reduceToInt]; omega) (by decide) l4 hl4 (by
      intro l hl
      have := key (sA s 12 i.toNatClampNeg) (.val (.int (sI s 1))) l (Or.inr ⟨_, rfl⟩) hl
      simp +decide only [w28_91, w28_92, w28_95, w28_96, w28_97, w28_98, w28_99, w28_100, w28_101, w28_104, isO_put, true_and, and_true, Int32.reduceToNatClampNeg, g37, ai16, aw16, ae16, as16, hx, Int32.reduceToNatClampNeg]
      exact this)
    rcases hl2 with rfl | ⟨v, rfl⟩ <;> rcases hl3 with rfl | ⟨v, rfl⟩ <;> simp +decide only [w28_3, w28_4, w28_7, w28_8, w28_11, w28_12, w28_13i, w28_13, w28_14, w28_15, w28_18, w28_19, w28_20, w28_23, w28_29, w28_30i, w28_30, isO_put, true_and, and_true, ↓reduceIte, g0, g33, ai12, ae12, h1, hx, e1, e2] <;> exact inn
theorem t28 (hE : Ev s) (hQ : Q none (ob H p (smS s))) : Cl (pj lw) 28 [.ref p] (ob H p s) Q := by
  rw [c28]; simp +decide only [w28_0, w28_1]
  exact l28 (R := fun v => Q none (ob H p (uJ v 15 (sJ v 15 + (sI v 12).toInt64)))) (fun s => Iff.rfl) 4 0 s hE (by decide) (by decide) .unset .unset .unset (Or.inl rfl) (Or.inl rfl) (Or.inl rfl) hQ
def isR (s : St) : Int32 := if sI s 4 < 0 then 0 else if ¬ 0 < sI s 5 + sI s 6 then 0 else if sJ s 11 % (sI s 5 + sI s 6).toInt64 < (sI s 5).toInt64 then 0 else 1
theorem isR01 : isR s = 0 ∨ isR s = 1 := by unfold isR; (repeat' split) <;> simp
theorem t10 : Cl (pj lw) 10 [.ref p] (ob H p s) Q ↔ Q (some (.int (isR s))) (ob H p s) := by
  rw [c10]; unfold isR
  by_cases e1 : sI s 4 < 0
  · simp +decide only [w10_0, w10_1, w10_4, w10_7, w10_8, isO_put, true_and, ↓reduceIte, g4, e1]
  by_cases e2 : 0 < sI s 5 + sI s 6
  rotate_left
  · simp +decide only [w10_0, w10_1, w10_4, w10_9, w10_10, w10_13, w10_14, w10_17, w10_18, w10_19, w10_20, w10_23, w10_24, isO_put, true_and, not_false_eq_true, ↓reduceIte, g4, g5, g6, e1, e2]
  have e0 : ¬ (sI s 5 + sI s 6).toInt64 = 0 := by
    have z : (0 : Int64).toInt = 0 := by decide
    rw [eq64, Int32.toInt_toInt64, z]; rw [lt32] at e2; simp only [Int32.reduceToInt] at e2
    omega
  by_cases e3 : sJ s 11 % (sI s 5 + sI s 6).toInt64 < (sI s 5).toInt64 <;> simp +decide only [w10_0, w10_1, w10_4, w10_9, w10_10, w10_13, w10_14, w10_17, w10_18, w10_19, w10_20, w10_25, w10_26, w10_29, w10_30, w10_31, w10_32, w10_33, w10_36, w10_37, w10_38, w10_41, w10_42, w10_45, w10_46, isO_put, cmpL_lt, true_and, not_true_eq_false, not_false_eq_true, ↓reduceIte, g4, g5, g6, g11, e1, e2, e3, e0]
def os0 (s : St) : St := uI s 10 (isR s)
def os1 (s : St) : St := clS (os0 s)
def os2 (s : St) : St := csS (os1 s)
def os3 (s : St) : St := mvA (os2 s)
def os4 (s : St) : St := mgS (os3 s)
def os5 (s : St) : St := smS (os4 s)
def osS (s : St) : St := uJ (os5 s) 11 (sJ (os5 s) 11 + 1)
theorem os0_E (hE : Ev s) : Ev (os0 s) := Ev_uI hE (by decide)
theorem os1_E (hE : Ev s) : Ev (os1 s) := (clS_kp (os0_E hE)).1
theorem os2_E (hE : Ev s) : Ev (os2 s) := (rdA_kp (Kp_ifo Kp_sp) (os1_E hE)).1
theorem os3_E (hE : Ev s) : Ev (os3 s) := (mvA_kp (os2_E hE)).1
theorem os4_E (hE : Ev s) : Ev (os4 s) := (mg_kp (os3_E hE)).1
theorem os5_E (hE : Ev s) : Ev (os5 s) := (sm_kp (os4_E hE)).1
theorem Ev_os (hE : Ev s) : Ev (osS s) := Ev_uJ (os5_E hE)
theorem os_I {x : Nat} (hE : Ev s) (hx : x ≠ 3 ∧ x ≠ 12 ∧ x ≠ 10 ∧ x ≠ 21 ∧ x ≠ 22) : sI (osS s) x = sI s x := by
  unfold osS; rw [sI_uJ]; unfold os5
  rw [(sm_kp (os4_E hE)).2.1]; unfold os4
  rw [(mg_kp (os3_E hE)).2 x hx.2.1 hx.2.2.2.1 hx.2.2.2.2]; unfold os3
  rw [(mvA_kp (os2_E hE)).2 x hx.1 hx.2.1]; unfold os2 csS
  rw [(rdA_kp (Kp_ifo Kp_sp) (os1_E hE)).2 x hx.1 hx.2.1]; unfold os1
  rw [(clS_kp (os0_E hE)).2 x hx.1 hx.2.1]; unfold os0
  rw [sI_uI, if_neg hx.2.2.1]
theorem t9 (hE : Ev s) (hQ : Q none (ob H p (osS s))) : Cl (pj lw) 9 [.ref p] (ob H p s) Q := by
  have eb := isR01 (s := s)
  have e0 : uI s 10 (isR s) = os0 s := rfl
  have e1 : clS (os0 s) = os1 s := rfl
  have e2 : csS (os1 s) = os2 s := rfl
  have e3 : mvA (os2 s) = os3 s := rfl
  have e4 : mgS (os3 s) = os4 s := rfl
  rw [c9]
  simp +decide only [w9_0, w9_1, w9_2, w9_5, w9_8, w9_9, w9_12, w9_13, w9_16, w9_17, w9_20, w9_21, isO_put, isOw_put, okv_bool, cs_nil, cs_ref, Option.toList_some, Option.toList_none, List.cons_append, List.nil_append, true_and, and_true, Nat.reduceAdd, Nat.reduceLeDiff, Int32.reduceAdd, Int64.reduceAdd, Nat.add_zero, s10, t10, eb, e0, e1, e2, e3, e4, t17 (os0_E hE), t21 (os1_E hE), t23 (os2_E hE), t27 (os3_E hE)]
  simp +decide only [w9_24, w9_25, isO_put, true_and, and_true]
  refine t28 (os4_E hE) ?_
  simp +decide only [w9_28, w9_29, w9_30, w9_33, w9_34, w9_35, w9_38, isO_put, isOw_put, okv_long, Option.toList_none, List.nil_append, true_and, and_true, g11, s11]
  exact hQ
def osF : Nat → St → St
  | 0, s => s
  | m + 1, s => osF m (osS s)
theorem Ev_osF : ∀ (m : Nat) (s : St), Ev s → Ev (osF m s)
  | 0, _, h => h
  | m + 1, s, h => Ev_osF m _ (Ev_os h)
theorem osF_I {x : Nat} (hx : x ≠ 3 ∧ x ≠ 12 ∧ x ≠ 10 ∧ x ≠ 21 ∧ x ≠ 22) : ∀ (m : Nat) (s : St), Ev s → sI (osF m s) x = sI s x
  | 0, _, _ => rfl
  | m + 1, s, h => (osF_I hx m _ (Ev_os h)).trans (os_I h hx)
def stc (a : Int32) : Prop := ¬ a < 1 ∧ ¬ 16 < a
instance : Decidable (stc a) := by unfold stc; infer_instance
def stS (s : St) (a : Int32) : St := if stc a then osF a.toInt.toNat s else s
def stR (s : St) (a : Int32) : Int32 := if stc a then sI (stS s a) 12 else -1
theorem Ev_st (hE : Ev s) : Ev (stS s a) := by unfold stS; split; exact Ev_osF _ _ hE; exact hE
theorem st_I {x : Nat} (hE : Ev s) (hx : x ≠ 3 ∧ x ≠ 12 ∧ x ≠ 10 ∧ x ≠ 21 ∧ x ≠ 22) : sI (stS s a) x = sI s x := by unfold stS; split; exact osF_I hx _ _ hE; rfl
theorem l8 (ha : ¬ 16 < a) (m : Nat) : ∀ (i : Int32) (s : St), Ev s → i.toInt = a.toInt - m → 0 ≤ i.toInt → Q (some (.int (sI (osF m s) 12))) (ob H p (osF m s)) →
    W (pj lw) 8 15 [.val (.ref p), .val (.int a), .val (.int i)] [] k n (ob H p s) Q := by
  rw [lt32] at ha; simp only [Int32.reduceToInt] at ha
  induction m with
  | zero =>
    intro i s hE hi h0 hQ
    have h1 : ¬ i < a := by rw [lt32]; omega
    rw [w8_15]; simp +decide only [w8_16, w8_17, w8_30, w8_31, w8_34, isO_put, true_and, ↓reduceIte, g12, h1]; exact hQ
  | succ m ih =>
    intro i s hE hi h0 hQ
    have h1 : i < a := by rw [lt32]; omega
    have h2 : (i + 1).toInt = i.toInt + 1 := ia (by simp only [Int32.reduceToInt]; omega) (by simp only [Int32.reduceToInt]; omega)
    have key := ih (i + 1) (osS s) (Ev_os hE) (by omega) (by omega) hQ
    rw [w8_15]; simp +decide only [w8_16, w8_17, w8_20, w8_21, w8_24, w8_27, isO_put, true_and, and_true, ↓reduceIte, h1]
    refine t9 hE ?_
    simp +decide only [Option.toList_none, List.nil_append]; exact key
theorem t8 (hE : Ev s) (hQ : Q (some (.int (stR s a))) (ob H p (stS s a))) : Cl (pj lw) 8 [.ref p, .int a] (ob H p s) Q := by
  rw [c8]; unfold stR stS stc at hQ
  by_cases e1 : a < 1
  · simp +decide only [e1, false_and, not_true_eq_false, ↓reduceIte] at hQ
    simp +decide only [w8_0, w8_1, w8_2, w8_11, w8_12, ↓reduceIte, e1]; exact hQ
  by_cases e2 : 16 < a
  · simp +decide only [e1, e2, and_false, not_true_eq_false, not_false_eq_true, ↓reduceIte] at hQ
    simp +decide only [w8_0, w8_1, w8_2, w8_5, w8_6, w8_8, w8_11, w8_12, ↓reduceIte, e1, e2]; exact hQ
  simp +decide only [e1, e2, and_true, not_false_eq_true, ↓reduceIte] at hQ
  simp +decide only [w8_0, w8_1, w8_2, w8_5, w8_6, w8_8, w8_13, w8_14, ↓reduceIte, e1, e2]
  exact l8 e2 a.toInt.toNat 0 s hE (by rw [lt32] at e1; simp only [Int32.reduceToInt] at e1 ⊢; omega) (by decide) hQ
def sgc (s : St) (a b c : Int32) : Prop := a = -1 ∨ (¬ a < 0 ∧ a < sI s 0 ∧ ¬ b < 1 ∧ ¬ 64 < b ∧ ¬ c < 0 ∧ ¬ 64 < c)
instance : Decidable (sgc s a b c) := by unfold sgc; infer_instance
def sgS (s : St) (a b c : Int32) : St := if a = -1 then uI s 4 (-1) else if sgc s a b c then uI (uI (uI s 4 a) 5 b) 6 c else s
def dec (s : St) (a b : Int32) : Prop := ¬ a < 0 ∧ ¬ 3 < a ∧ ¬ b < -1 ∧ b < sI s 0
instance : Decidable (dec s a b) := by unfold dec; infer_instance
def deS (s : St) (a b : Int32) : St := if dec s a b then uB (uB (uB (uB (uA s 12 a.toNatClampNeg b) 13 a.toNatClampNeg 0) 14 a.toNatClampNeg 0) 15 a.toNatClampNeg 0) 16 a.toNatClampNeg 0 else s
theorem t3 : Cl (pj lw) 3 [.ref p, .int a, .int b, .int c] (ob H p s) Q ↔ Q (some (.int (bz (decide (sgc s a b c))))) (ob H p (sgS s a b c)) := by
  rw [c3]; unfold sgS sgc
  by_cases e0 : a = -1
  · simp +decide only [w3_0, w3_1, w3_2, w3_5, w3_6, w3_7, w3_10, w3_11, isOw_put, true_and, and_true, false_and, or_false, not_true_eq_false, ↓reduceIte, Int64.reduceLT, Int32.reduceLT, s4, e0, decide_true, bz_t]
  by_cases e1 : a < 0
  · simp +decide only [w3_0, w3_1, w3_2, w3_12, w3_13, w3_24, w3_25, true_and, false_and, or_false, not_true_eq_false, ↓reduceIte, e0, e1, decide_false, bz_f]
  by_cases e2 : a < sI s 0
  rotate_left
  · simp +decide only [w3_0, w3_1, w3_2, w3_12, w3_13, w3_16, w3_17, w3_18, w3_21, w3_24, w3_25, isO_put, true_and, false_and, and_false, or_false, not_false_eq_true, ↓reduceIte, g0, e0, e1, e2, decide_false, bz_f]
  by_cases e3 : b < 1
  · simp +decide only [w3_0, w3_1, w3_2, w3_12, w3_13, w3_16, w3_17, w3_18, w3_21, w3_26, w3_27, w3_28, w3_37, w3_38, isO_put, true_and, false_and, and_false, or_false, not_true_eq_false, not_false_eq_true, ↓reduceIte, g0, e0, e1, e2, e3, decide_false, bz_f]
  by_cases e4 : 64 < b
  · simp +decide only [w3_0, w3_1, w3_2, w3_12, w3_13, w3_16, w3_17, w3_18, w3_21, w3_26, w3_27, w3_28, w3_31, w3_32, w3_34, w3_37, w3_38, isO_put, true_and, false_and, and_false, or_false, not_true_eq_false, not_false_eq_true, ↓reduceIte, g0, e0, e1, e2, e3, e4, decide_false, bz_f]
  by_cases e5 : c < 0
  · simp +decide only [w3_0, w3_1, w3_2, w3_12, w3_13, w3_16, w3_17, w3_18, w3_21, w3_26, w3_27, w3_28, w3_31, w3_32, w3_34, w3_39, w3_40, w3_49, w3_50, isO_put, true_and, false_and, and_false, or_false, not_true_eq_false, not_false_eq_true, ↓reduceIte, g0, e0, e1, e2, e3, e4, e5, decide_false, bz_f]
  by_cases e6 : 64 < c <;> simp +decide only [w3_0, w3_1, w3_2, w3_12, w3_13, w3_16, w3_17, w3_18, w3_21, w3_26, w3_27, w3_28, w3_31, w3_32, w3_34, w3_39, w3_40, w3_43, w3_44, w3_46, w3_49, w3_50, w3_51, w3_52, w3_53, w3_56, w3_57, w3_58, w3_61, w3_62, w3_63, w3_66, w3_67, isO_put, isOw_put, okv_int, true_and, and_true, and_false, or_false, or_true, not_true_eq_false, not_false_eq_true, ↓reduceIte, g0, s4, s5, s6, e0, e1, e2, e3, e4, e5, e6, decide_true, decide_false, bz_f, bz_t]
theorem t4 : Cl (pj lw) 4 [.ref p, .int a, .int b] (ob H p s) Q ↔ Q (some (.int (bz (decide (dec s a b))))) (ob H p (deS s a b)) := by
  rw [c4]; unfold deS dec
  by_cases e1 : a < 0
  · simp +decide only [w4_0, w4_1, w4_9, w4_10, true_and, false_and, not_true_eq_false, ↓reduceIte, e1, decide_false, bz_f]
  by_cases e2 : 3 < a
  · simp +decide only [w4_0, w4_1, w4_4, w4_5, w4_6, w4_9, w4_10, true_and, false_and, and_false, not_true_eq_false, not_false_eq_true, ↓reduceIte, e1, e2, decide_false, bz_f]
  by_cases e3 : b < -1
  · simp +decide only [w4_0, w4_1, w4_4, w4_5, w4_6, w4_11, w4_12, w4_13, w4_24, w4_25, true_and, false_and, and_false, not_true_eq_false, not_false_eq_true, ↓reduceIte, e1, e2, e3, decide_false, bz_f]
  have hx : 0 ≤ a.toInt ∧ a.toInt < 4 := by rw [lt32] at e1 e2; simp only [Int32.reduceToInt] at e1 e2; omega
  by_cases e4 : b < sI s 0 <;> simp +decide only [w4_0, w4_1, w4_4, w4_5, w4_6, w4_11, w4_12, w4_13, w4_16, w4_17, w4_18, w4_21, w4_24, w4_25, w4_26, w4_27, w4_30, w4_31, w4_32, w4_33, w4_34, w4_37, w4_38, w4_39, w4_40, w4_41, w4_44, w4_45, w4_46, w4_47, w4_48, w4_51, w4_52, w4_53, w4_54, w4_55, w4_58, w4_59, w4_60, w4_61, w4_62, isO_put, true_and, and_true, and_false, not_false_eq_true, ↓reduceIte, g0, g33, g34, g35, g36, g37, aw12, as12, aw13, as13, aw14, as14, aw15, as15, aw16, as16, hx, e1, e2, e3, e4, decide_true, decide_false, bz_f, bz_t]
def rac (s : St) (a : Int32) : Prop := ¬ a < -1 ∧ a < sI s 0
instance : Decidable (rac s a) := by unfold rac; infer_instance
def slc (a : Int32) : Prop := ¬ a < 0 ∧ ¬ 16 < a
instance : Decidable (slc a) := by unfold slc; infer_instance
def cfR (s : St) (k x a b : Int32) : Bool := if k = 1 then decide (sgc s x a b) else if k = 2 then decide (rac s x) else if k = 3 then decide (rac s x) else if k = 4 then decide (slc x) else if k = 5 then decide (dec s x a) else false
def cfS (s : St) (k x a b : Int32) : St := if k = 1 then sgS s x a b else if k = 2 then (if rac s x then uI s 7 x else s) else if k = 3 then (if rac s x then uI s 8 x else s) else if k = 4 then (if slc x then uI s 9 x else s) else if k = 5 then deS s x a else s
theorem t2 {x : Int32} : Cl (pj lw) 2 [.ref p, .int x, .int a, .int b, .int c] (ob H p s) Q ↔ Q (some (.int (bz (cfR s x a b c)))) (ob H p (cfS s x a b c)) := by
  rw [c2]; unfold cfS cfR rac slc
  by_cases e1 : x = 1
  · simp +decide only [w2_0, w2_1, w2_2, w2_5, w2_6, w2_7, w2_8, w2_10, w2_13, isO_put, Option.toList_some, List.cons_append, List.nil_append, true_and, and_true, ↓reduceIte, e1, t3, bz01]
  by_cases e2 : x = 2
  · rcases Classical.propComplete (a < -1) with f1 | f1 <;> rcases Classical.propComplete (a < sI s 0) with f2 | f2 <;> simp +decide only [w2_0, w2_1, w2_2, w2_14, w2_15, w2_16, w2_19, w2_20, w2_21, w2_24, w2_25, w2_26, w2_29, w2_32, w2_33, w2_34, w2_35, w2_36, w2_39, w2_40, isO_put, isOw_put, okv_int, true_and, and_true, and_false, not_true_eq_false, not_false_eq_true, ↓reduceIte, g0, s7, e2, f1, f2, decide_true, decide_false, bz_f, bz_t]
  by_cases e3 : x = 3
  · rcases Classical.propComplete (a < -1) with f1 | f1 <;> rcases Classical.propComplete (a < sI s 0) with f2 | f2 <;> simp +decide only [w2_0, w2_1, w2_2, w2_14, w2_15, w2_16, w2_41, w2_42, w2_43, w2_46, w2_47, w2_48, w2_51, w2_52, w2_53, w2_56, w2_59, w2_60, w2_61, w2_62, w2_63, w2_66, w2_67, isO_put, isOw_put, okv_int, true_and, and_true, and_false, not_true_eq_false, not_false_eq_true, ↓reduceIte, g0, s8, e3, f1, f2, decide_true, decide_false, bz_f, bz_t]
  by_cases e4 : x = 4
  · rcases Classical.propComplete (a < 0) with f1 | f1 <;> rcases Classical.propComplete (16 < a) with f2 | f2 <;> simp +decide only [w2_0, w2_1, w2_2, w2_14, w2_15, w2_16, w2_41, w2_42, w2_43, w2_68, w2_69, w2_70, w2_73, w2_74, w2_77, w2_78, w2_80, w2_83, w2_84, w2_85, w2_86, w2_87, w2_90, w2_91, isOw_put, okv_int, true_and, and_true, and_false, not_true_eq_false, not_false_eq_true, ↓reduceIte, s9, e4, f1, f2, decide_true, decide_false, bz_f, bz_t]
  by_cases e5 : x = 5
  · simp +decide only [w2_0, w2_1, w2_2, w2_14, w2_15, w2_16, w2_41, w2_42, w2_43, w2_68, w2_69, w2_70, w2_92, w2_93, w2_94, w2_97, w2_98, w2_99, w2_100, w2_103, isO_put, Option.toList_some, List.cons_append, List.nil_append, true_and, and_true, ↓reduceIte, e5, t4, bz01]
  · simp +decide only [w2_0, w2_1, w2_2, w2_14, w2_15, w2_16, w2_41, w2_42, w2_43, w2_68, w2_69, w2_70, w2_92, w2_93, w2_94, w2_104, w2_105, true_and, ↓reduceIte, e1, e2, e3, e4, e5, bz_f]
theorem Ev_sg (hE : Ev s) : Ev (sgS s a b c) := by
  unfold sgS; split
  · exact Ev_uI hE (by decide)
  · split
    · exact Ev_uI (Ev_uI (Ev_uI hE (by decide)) (by decide)) (by decide)
    · exact hE
theorem Ev_de (hE : Ev s) : Ev (deS s a b) := by
  unfold deS; split
  · exact Ev_uB (Ev_uB (Ev_uB (Ev_uB (Ev_uA hE (by omega) (by omega)))))
  · exact hE
theorem Ev_if {P : Prop} [Decidable P] {s' : St} (h1 : Ev s') (h2 : Ev s) : Ev (if P then s' else s) := by split; exact h1; exact h2
theorem Ev_cf {x : Int32} (hE : Ev s) : Ev (cfS s x a b c) := by
  unfold cfS
  exact Ev_if (Ev_sg hE) (Ev_if (Ev_if (Ev_uI hE (by decide)) hE) (Ev_if (Ev_if (Ev_uI hE (by decide)) hE) (Ev_if (Ev_if (Ev_uI hE (by decide)) hE) (Ev_if (Ev_de hE) hE))))
theorem cf_I {x : Int32} {y : Nat} (hy : y ≠ 4 ∧ y ≠ 5 ∧ y ≠ 6 ∧ y ≠ 7 ∧ y ≠ 8 ∧ y ≠ 9) : sI (cfS s x a b c) y = sI s y := by
  unfold cfS sgS deS; (repeat' split) <;> simp only [sI_uI, sI_uA, sI_uB, hy, if_false]
theorem cf_A {x : Int32} {t i : Nat} (ht : t ≠ 12) : sA (cfS s x a b c) t i = sA s t i := by
  unfold cfS sgS deS; (repeat' split) <;> simp only [sA_uI, sA_uA, sA_uB, ht, false_and, if_false]
theorem cf_J {x : Int32} {y : Nat} : sJ (cfS s x a b c) y = sJ s y := by
  unfold cfS sgS deS; (repeat' split) <;> simp only [sJ_uI, sJ_uA, sJ_uB]
def vdc (s : St) (a b : Int32) : Prop := ¬ a < 0 ∧ a < sI s 1 ∧ ¬ b < 0 ∧ b < sI s 0
instance : Decidable (vdc s a b) := by unfold vdc; infer_instance
def plc (s : St) (a b c : Int32) : Prop := vdc s a b ∧ (¬ c < 0 ∧ ¬ sI s 2 < c) ∧ sA s 2 (a * 128 + b).toNatClampNeg = 0
instance : Decidable (plc s a b c) := by unfold plc; infer_instance
def plS (s : St) (a b c e : Int32) : St := if plc s a b c then pvS s (a * 128 + b) c e else s
theorem vdc_ix (hE : Ev s) (h : vdc s a b) : (0 ≤ a.toInt ∧ a.toInt < (sI s 1).toInt) ∧ (0 ≤ b.toInt ∧ b.toInt < (sI s 0).toInt) ∧ 0 ≤ (a * 128 + b).toInt ∧ (a * 128 + b).toInt < 384 := by
  obtain ⟨h1, h2, h3, h4⟩ := h
  rw [lt32] at h1 h2 h3 h4; simp only [Int32.reduceToInt] at h1 h3
  have := hE.1; have := hE.2.1
  exact ⟨by omega, by omega, (ixr (by omega) (by omega)).2⟩
theorem t5 (hE : Ev s) (hd : d = 0 ∨ d = 1) : Cl (pj lw) 5 [.ref p, .int a, .int b, .int c, .int d] (ob H p s) Q ↔ Q (some (.int (bz (decide (plc s a b c))))) (ob H p (plS s a b c d)) := by
  rw [c5]; unfold plS plc
  by_cases e1 : a < 0
  · simp +decide only [w5_0, w5_1, w5_12, w5_13, true_and, false_and, not_true_eq_false, ↓reduceIte, vdc, e1, decide_false, bz_f]
  by_cases e2 : a < sI s 1
  rotate_left
  · simp +decide only [w5_0, w5_1, w5_4, w5_5, w5_6, w5_9, w5_12, w5_13, isO_put, true_and, false_and, and_false, not_false_eq_true, ↓reduceIte, g1, vdc, e1, e2, decide_false, bz_f]
  by_cases e3 : b < 0
  · simp +decide only [w5_0, w5_1, w5_4, w5_5, w5_6, w5_9, w5_14, w5_15, w5_26, w5_27, isO_put, true_and, false_and, and_false, not_true_eq_false, not_false_eq_true, ↓reduceIte, g1, vdc, e1, e2, e3, decide_false, bz_f]
  by_cases e4 : b < sI s 0
  rotate_left
  · simp +decide only [w5_0, w5_1, w5_4, w5_5, w5_6, w5_9, w5_14, w5_15, w5_18, w5_19, w5_20, w5_23, w5_26, w5_27, isO_put, true_and, false_and, and_false, not_false_eq_true, ↓reduceIte, g0, g1, vdc, e1, e2, e3, e4, decide_false, bz_f]
  have hv : vdc s a b := ⟨e1, e2, e3, e4⟩
  have hx := (vdc_ix hE hv).2.2
  by_cases e5 : c < 0
  · simp +decide only [w5_0, w5_1, w5_4, w5_5, w5_6, w5_9, w5_14, w5_15, w5_18, w5_19, w5_20, w5_23, w5_28, w5_29, w5_40, w5_41, isO_put, true_and, false_and, and_false, not_true_eq_false, ↓reduceIte, g0, g1, hv, e1, e2, e3, e4, e5, decide_false, bz_f]
  by_cases e6 : sI s 2 < c
  · simp +decide only [w5_0, w5_1, w5_4, w5_5, w5_6, w5_9, w5_14, w5_15, w5_18, w5_19, w5_20, w5_23, w5_28, w5_29, w5_32, w5_33, w5_34, w5_37, w5_40, w5_41, isO_put, true_and, false_and, and_false, not_true_eq_false, not_false_eq_true, ↓reduceIte, g0, g1, g2, hv, e1, e2, e3, e4, e5, e6, decide_false, bz_f]
  by_cases e7 : sA s 2 (a * 128 + b).toNatClampNeg = 0 <;> simp +decide only [w5_0, w5_1, w5_4, w5_5, w5_6, w5_9, w5_14, w5_15, w5_18, w5_19, w5_20, w5_23, w5_28, w5_29, w5_32, w5_33, w5_34, w5_37, w5_42, w5_43, w5_46, w5_47, w5_48, w5_49, w5_51, w5_52, w5_55, w5_57, w5_58, w5_61, w5_62, w5_63, w5_64, w5_66, w5_67, w5_69, w5_72, w5_73, isO_put, true_and, and_true, and_false, or_true, not_false_eq_true, ↓reduceIte, g0, g1, g2, g23, ai2, ain2, ae2, ain2, hv, hx, e1, e2, e3, e4, e5, e6, e7, t6 hx hd, decide_true, decide_false, bz_f, bz_t]
theorem Ev_pl (hE : Ev s) (hd : d = 0 ∨ d = 1) : Ev (plS s a b c d) ∧ ∀ x, x ≠ 12 → sI (plS s a b c d) x = sI s x := by
  unfold plS; split
  · rename_i h
    obtain ⟨q1, q2⟩ := h.2.1
    rw [lt32] at q1 q2; simp only [Int32.reduceToInt] at q1
    exact pv_kp hE ⟨by omega, by omega⟩ hd
  · exact ⟨hE, fun _ _ => rfl⟩
def quS (s : St) (e : Int32) : St := if sI s 22 < 16 then uI (uA s 1 ((sI s 21 + sI s 22) % 16).toNatClampNeg e) 22 (sI s 22 + 1) else s
theorem qix (hE : Ev s) (h0 : 0 ≤ a.toInt ∧ a.toInt ≤ 16) : 0 ≤ ((sI s 21 + a) % 16).toInt ∧ ((sI s 21 + a) % 16).toInt < 16 := by
  have h1 := hE.2.2.2.1
  have e1 : (sI s 21 + a).toInt = (sI s 21).toInt + a.toInt := ia (by omega) (by omega)
  obtain ⟨r1, r2, r3⟩ := rem_rg' (x := sI s 21 + a) (y := 16) (by decide)
  rw [e1] at r3; simp only [Int32.reduceToInt] at r2 r3
  have r4 : 0 ≤ ((sI s 21).toInt + a.toInt).tmod 16 := Int.tmod_nonneg _ (by omega)
  omega
theorem t7 (hE : Ev s) (hd : a = 0 ∨ a = 1) : Cl (pj lw) 7 [.ref p, .int a] (ob H p s) Q ↔ Q (some (.int (bz (decide (sI s 22 < 16))))) (ob H p (quS s a)) := by
  have hx := qix hE hE.2.2.2.2.1
  have e16 : ¬ (16 : Int32) = 0 := by decide
  rw [c7]; unfold quS
  by_cases e : sI s 22 < 16 <;> simp +decide only [w7_0, w7_1, w7_4, w7_6, w7_9, w7_10, w7_11, w7_12, w7_15, w7_16, w7_19, w7_20, w7_22, w7_23, w7_24, w7_25, w7_28, w7_29, w7_30, w7_31, w7_32, w7_33, w7_36, w7_37, w7_38, w7_41, w7_42, isO_put, isOw_put, okv_int, okv_bool, okv_byte, sI_uA, true_and, and_true, false_and, or_true, ↓reduceIte, g20, g21, g22, s22, aw1, awn1, as1, awn1, hx, hd, e, decide_true, decide_false, bz_f, bz_t]
theorem Ev_qu (hE : Ev s) (hd : a = 0 ∨ a = 1) : Ev (quS s a) ∧ ∀ x, x ≠ 22 → sI (quS s a) x = sI s x := by
  unfold quS; split
  · rename_i h
    have h1 := hE.2.2.2.2.1
    rw [lt32] at h; simp only [Int32.reduceToInt] at h
    refine ⟨?_, fun x hx => by simp only [sI_uI, sI_uA, if_neg hx]⟩
    have e2 : (sI s 22 + 1).toInt = (sI s 22).toInt + 1 := ia (by simp only [Int32.reduceToInt]; omega) (by simp only [Int32.reduceToInt]; omega)
    have h2 := Ev_q (s := uA s 1 ((sI s 21 + sI s 22) % 16).toNatClampNeg a) (x := sI s 21) (y := sI s 22 + 1) (Ev_uA hE (fun _ => hd) (by omega)) hE.2.2.2.1 (by omega)
    have e3 : uI (uA s 1 ((sI s 21 + sI s 22) % 16).toNatClampNeg a) 21 (sI s 21) = uA s 1 ((sI s 21 + sI s 22) % 16).toNatClampNeg a := St_ext (fun k => by rw [sI_uI, sI_uA]; split; rename_i g; rw [g]; rfl) (fun k => sJ_uI) (fun t i => sA_uI) (fun t i => sB_uI)
    rw [e3] at h2; exact h2
  · exact ⟨hE, fun _ _ => rfl⟩
def cSp (s : St) (a b : Int32) : Int32 := if vdc s a b ∧ ¬ sA s 2 (a * 128 + b).toNatClampNeg = 0 then sA s 3 (a * 128 + b).toNatClampNeg else -1
def cId (s : St) (a b : Int32) : Int32 := if vdc s a b ∧ ¬ sA s 2 (a * 128 + b).toNatClampNeg = 0 then sA s 4 (a * 128 + b).toNatClampNeg else -1
theorem t29 : Cl (pj lw) 29 [.ref p, .int a, .int b] (ob H p s) Q ↔ Q (some (.int (bz (decide (vdc s a b))))) (ob H p s) := by
  rw [c29]; unfold vdc
  rcases Classical.propComplete (a < 0) with e1 | e1 <;> rcases Classical.propComplete (a < sI s 1) with e2 | e2 <;> rcases Classical.propComplete (b < 0) with e3 | e3 <;> rcases Classical.propComplete (b < sI s 0) with e4 | e4 <;>
  simp +decide only [w29_0, w29_1, w29_4, w29_5, w29_6, w29_9, w29_12, w29_13, w29_16, w29_17, w29_18, w29_21, w29_24, w29_25, w29_28, w29_29, isO_put, true_and, and_true, and_false, not_true_eq_false, not_false_eq_true, ↓reduceIte, g0, g1, e1, e2, e3, e4, decide_true, decide_false, bz_f, bz_t]
theorem t30 (hE : Ev s) : Cl (pj lw) 30 [.ref p, .int a, .int b] (ob H p s) Q ↔ Q (some (.int (cSp s a b))) (ob H p s) := by
  rw [c30]; unfold cSp
  by_cases e1 : vdc s a b
  · have hx := (vdc_ix hE e1).2.2
    by_cases e2 : sA s 2 (a * 128 + b).toNatClampNeg = 0 <;> simp +decide only [w30_0, w30_1, w30_2, w30_3, w30_6, w30_11, w30_12, w30_15, w30_16, w30_17, w30_18, w30_19, w30_20, w30_23, w30_24, w30_25, w30_28, w30_29, w30_32, w30_33, w30_34, w30_37, w30_38, isO_put, Option.toList_some, List.cons_append, List.nil_append, true_and, and_true, and_false, or_true, not_true_eq_false, not_false_eq_true, ↓reduceIte, g23, g24, ai2, ain2, ae2, ai3, ae3, ain2, hx, e1, e2, t29, decide_true, bz_t]
  · simp +decide only [w30_0, w30_1, w30_2, w30_3, w30_6, w30_9, w30_10, isO_put, Option.toList_some, List.cons_append, List.nil_append, true_and, and_true, false_and, ↓reduceIte, e1, t29, decide_false, bz_f]
theorem t31 (hE : Ev s) : Cl (pj lw) 31 [.ref p, .int a, .int b] (ob H p s) Q ↔ Q (some (.int (cId s a b))) (ob H p s) := by
  rw [c31]; unfold cId
  by_cases e1 : vdc s a b
  · have hx := (vdc_ix hE e1).2.2
    by_cases e2 : sA s 2 (a * 128 + b).toNatClampNeg = 0 <;> simp +decide only [w31_0, w31_1, w31_2, w31_3, w31_6, w31_11, w31_12, w31_15, w31_16, w31_17, w31_18, w31_19, w31_20, w31_23, w31_24, w31_25, w31_28, w31_29, w31_32, w31_33, w31_34, w31_37, w31_38, isO_put, Option.toList_some, List.cons_append, List.nil_append, true_and, and_true, and_false, or_true, not_true_eq_false, not_false_eq_true, ↓reduceIte, g23, g25, ai2, ain2, ae2, ai4, ae4, ain2, hx, e1, e2, t29, decide_true, bz_t]
  · simp +decide only [w31_0, w31_1, w31_2, w31_3, w31_6, w31_9, w31_10, isO_put, Option.toList_some, List.cons_append, List.nil_append, true_and, and_true, false_and, ↓reduceIte, e1, t29, decide_false, bz_f]
def qEx (s : St) (a : Int32) : Int32 := if ¬ a < 0 ∧ a < sI s 22 then sA s 1 ((sI s 21 + a) % 16).toNatClampNeg else 0
def stat (s : St) (a : Int32) : Int64 := if a = 0 then sJ s 11 else if a = 1 then (sI s 12).toInt64 else if a = 2 then sJ s 13 else if a = 3 then sJ s 14 else if a = 4 then (sI s 22).toInt64 else if a = 5 then sJ s 15 else if a = 6 then sJ s 16 else if a = 7 then sJ s 17 else if a = 8 then sJ s 18 else if a = 9 then sJ s 19 else -1
theorem t34 : Cl (pj lw) 34 [.ref p, .int a] (ob H p s) Q ↔ Q (some (.long (stat s a))) (ob H p s) := by
  rw [c34]; unfold stat
  by_cases e0 : a = 0
  · simp +decide only [w34_0, w34_1, w34_56, w34_57, w34_60, isO_put, true_and, ↓reduceIte, g11, e0]
  by_cases e1 : a = 1
  · simp +decide only [w34_0, w34_1, w34_61, w34_62, w34_65, w34_66, isO_put, true_and, ↓reduceIte, g12, e1]
  by_cases e2 : a = 2
  · simp +decide only [w34_0, w34_1, w34_67, w34_68, w34_71, isO_put, true_and, ↓reduceIte, g13, e2]
  by_cases e3 : a = 3
  · simp +decide only [w34_0, w34_1, w34_72, w34_73, w34_76, isO_put, true_and, ↓reduceIte, g14, e3]
  by_cases e4 : a = 4
  · simp +decide only [w34_0, w34_1, w34_77, w34_78, w34_81, w34_82, isO_put, true_and, ↓reduceIte, g22, e4]
  by_cases e5 : a = 5
  · simp +decide only [w34_0, w34_1, w34_83, w34_84, w34_87, isO_put, true_and, ↓reduceIte, g15, e5]
  by_cases e6 : a = 6
  · simp +decide only [w34_0, w34_1, w34_88, w34_89, w34_92, isO_put, true_and, ↓reduceIte, g16, e6]
  by_cases e7 : a = 7
  · simp +decide only [w34_0, w34_1, w34_93, w34_94, w34_97, isO_put, true_and, ↓reduceIte, g17, e7]
  by_cases e8 : a = 8
  · simp +decide only [w34_0, w34_1, w34_98, w34_99, w34_102, isO_put, true_and, ↓reduceIte, g18, e8]
  by_cases e9 : a = 9
  · simp +decide only [w34_0, w34_1, w34_103, w34_104, w34_107, isO_put, true_and, ↓reduceIte, g19, e9]
  · simp +decide only [w34_0, w34_1, w34_108, w34_111, ↓reduceIte, e0, e1, e2, e3, e4, e5, e6, e7, e8, e9]
theorem Ev_ini : Ev (ini0 a b c d) := by
  have i : sI (ini0 a b c d) 0 = cl 8 128 a ∧ sI (ini0 a b c d) 1 = cl 2 3 b ∧ sI (ini0 a b c d) 2 = cl 1 5 c ∧ sI (ini0 a b c d) 21 = 0 ∧ sI (ini0 a b c d) 22 = 0 := by simp +decide only [ini0, sI_uI, sI_uA, sI_z0, and_true, ↓reduceIte]
  obtain ⟨i0, i1, i2, i3, i4⟩ := i
  have h0 := cl_rg (lo := 8) (hi := 128) a (by decide)
  have h1 := cl_rg (lo := 2) (hi := 3) b (by decide)
  have h2 := cl_rg (lo := 1) (hi := 5) c (by decide)
  simp only [Int32.reduceToInt] at h0 h1 h2
  have A : ∀ t i, t ≠ 12 → sA (ini0 a b c d) t i = 0 := fun t i ht => by simp +decide only [ini0, sA_uI, sA_uA, sA_z0, false_and, ↓reduceIte, ht]
  refine ⟨by rw [i0]; exact h0, by rw [i1]; exact h1, by rw [i2]; exact h2, by rw [i3]; decide, by rw [i4]; decide, fun t i ht => ?_, fun t i ht => ?_⟩
  · rw [A t i (by omega)]; exact Or.inl rfl
  · rw [A t i (by omega)]; unfold vr; rw [i2]; simp only [Int32.reduceToInt]; omega
end D

section E
variable {lw : LW} {H : AH} {p q : Nat} {s s' s0 s1 : St} {Q : Option Value → AH → Prop} {a b c d : Int32} {k n m : Nat}
section Sc
variable {cc a len : Nat} {f : Nat → Int32}
theorem sc1 (ha : a < p) : (isA (ob (H1 cc a len f) p s) a = true) = True ∧ alen (ob (H1 cc a len f) p s) a = len ∧ (∀ i, (inA (ob (H1 cc a len f) p s) a .int i = true) = (0 ≤ i.toInt ∧ i.toInt < len)) ∧ ∀ i, elt (ob (H1 cc a len f) p s) a i = .int (f i.toNatClampNeg) := by
  unfold ob
  refine ⟨?_, ?_, fun i => ?_, fun i => ?_⟩
  · rw [isA_ot (Or.inl ha), isA_H1]; exact eq_self _ ▸ rfl
  · rw [alen_ot (Or.inl ha), alen_H1]
  · rw [inA_ot (Or.inl ha)]; exact propext inA_H1
  · rw [elt_ot (Or.inl ha), elt_H1]
end Sc
theorem cnt_set {f g : Nat → Bool} {x : Nat} : ∀ (k j : Nat), j ≤ x → x < j + k → f x = false → g x = true → (∀ i, i ≠ x → g i = f i) → cnt g j k = cnt f j k + 1
  | 0, j, h1, h2, _, _, _ => by omega
  | k + 1, j, h1, h2, hf, hg, h => by
    simp only [cnt]
    by_cases e : j = x
    · subst e
      rw [hf, hg, cnt_congr k (j + 1) fun i a _ => h i (by omega)]; simp; omega
    · rw [h j e, cnt_set k (j + 1) (by omega) (by omega) hf hg h]; omega
theorem cnt_split {f : Nat → Bool} : ∀ (m n j : Nat), cnt f j (m + n) = cnt f j m + cnt f (j + m) n
  | 0, n, j => by simp only [Nat.zero_add, cnt, Nat.add_zero]
  | m + 1, n, j => by rw [Nat.succ_add, cnt, cnt, cnt_split m n (j + 1), show j + 1 + m = j + (m + 1) by omega]; omega
theorem cnt_s {f : Nat → Bool} (k j : Nat) : cnt f j (k + 1) = cnt f j k + (if f (j + k) = true then 1 else 0) := by
  rw [cnt_split]; rfl
def oc (s : St) (i : Nat) : Bool := decide (¬ sA s 2 i = 0)
def no (s : St) (i : Nat) : Bool := decide (¬ sA s 6 i = 0)
def nl (s : St) : Nat := (sI s 1).toInt.toNat
def ln (s : St) : Nat := (sI s 0).toInt.toNat
theorem ixn {l p : Nat} (hl : l < 3) (hp : p < 128) : (Int32.ofNat l * 128 + Int32.ofNat p).toNatClampNeg = l * 128 + p ∧ (Int32.ofNat l * 128 + Int32.ofNat p).toInt = l * 128 + p := by
  have e1 := (ofi (i := l) (by omega)).1
  have e2 := (ofi (i := p) (by omega)).1
  have e := (ixr (a := Int32.ofNat l) (b := Int32.ofNat p) (by omega) (by omega)).1
  rw [e1, e2] at e
  exact ⟨by rw [cln, e]; omega, e⟩
theorem occ_n {l p : Nat} (hl : l < 3) (hp : p < 128) : occ s (Int32.ofNat l) (Int32.ofNat p) = oc s (l * 128 + p) := by unfold occ oc; rw [(ixn hl hp).1]
theorem lp_ind {f : St → Int32 → Int32 → St} (hf : Kp f) {J : St → Nat → Nat → Prop} {N L l : Nat} (hl : l < N)
    (hs : ∀ v l q, Ev v → nl v = N → ln v = L → l < N → q < L → J v l q → J (f v (Int32.ofNat l) (Int32.ofNat q)) l (q + 1)) : ∀ (m q : Nat) (s : St), Ev s → nl s = N → ln s = L → q + m = L → J s l q → J (lpF f (Int32.ofNat l) m q s) l L
  | 0, q, s, hE, hN, hL, hq, h => by have : q = L := by omega
                                     subst this; exact h
  | m + 1, q, s, hE, hN, hL, hq, h => by
    have hb := hE.1
    have hn := hE.2.1
    have e1 := (ofi (i := l) (by unfold nl at hN; omega)).1
    have e2 := (ofi (i := q) (by unfold ln at hL; omega)).1
    obtain ⟨k1, k2⟩ := hf s (Int32.ofNat l) (Int32.ofNat q) hE (by rw [e1]; unfold nl at hN; omega) (by rw [e2]; unfold ln at hL; omega)
    exact lp_ind hf hl hs m (q + 1) _ k1 (by unfold nl; rw [k2 1 (by decide) (by decide)]; exact hN) (by unfold ln; rw [k2 0 (by decide) (by decide)]; exact hL) (by omega) (hs s l q hE hN hL hl (by omega) h)
theorem ln_ind {f : St → Int32 → Int32 → St} (hf : Kp f) {J : St → Nat → Nat → Prop} {N L : Nat}
    (hs : ∀ v l q, Ev v → nl v = N → ln v = L → l < N → q < L → J v l q → J (f v (Int32.ofNat l) (Int32.ofNat q)) l (q + 1))
    (hn : ∀ v l, l < N → J v l L → J v (l + 1) 0) : ∀ (m l : Nat) (s : St), Ev s → nl s = N → ln s = L → l + m = N → J s l 0 → J (lnF f m l s) N 0
  | 0, l, s, hE, hN, hL, hq, h => by have : l = N := by omega
                                     subst this; exact h
  | m + 1, l, s, hE, hN, hL, hq, h => by
    have hn' := hE.2.1
    have e1 := (ofi (i := l) (by unfold nl at hN; omega)).1
    obtain ⟨k1, k2⟩ := lpF_kp hf (l := Int32.ofNat l) (sI s 0).toInt.toNat 0 s hE (by rw [e1]; unfold nl at hN; omega) (by omega)
    have r := lp_ind hf (l := l) (by omega) hs (sI s 0).toInt.toNat 0 s hE hN hL (by unfold ln at hL; omega) h
    exact ln_ind hf hs hn m (l + 1) _ k1 (by unfold nl; rw [k2 1 (by decide) (by decide)]; exact hN) (by unfold ln; rw [k2 0 (by decide) (by decide)]; exact hL) (by omega) (hn _ l (by omega) r)
theorem rdA_ind {f : St → Int32 → Int32 → St} (hf : Kp f) {J : St → Nat → Nat → Prop} (hE : Ev s) (h0 : J s 0 0)
    (hs : ∀ v l q, Ev v → nl v = nl s → ln v = ln s → l < nl s → q < ln s → J v l q → J (f v (Int32.ofNat l) (Int32.ofNat q)) l (q + 1))
    (hn : ∀ v l, l < nl s → J v l (ln s) → J v (l + 1) 0) : J (rdA f s) (nl s) 0 :=
  ln_ind hf hs hn _ 0 s hE rfl rfl (by unfold nl; omega) h0
theorem Ev_nl (hE : Ev s) : 2 ≤ nl s ∧ nl s ≤ 3 ∧ 8 ≤ ln s ∧ ln s ≤ 128 := by
  have := hE.1; have := hE.2.1; unfold nl ln; omega
def Rg (s : St) (N L : Nat) : Prop := ∀ i, oc s i = true → i / 128 < N ∧ i % 128 < L
def Un (s : St) : Prop := ∀ i j, oc s i = true → oc s j = true → sA s 4 i = sA s 4 j → i = j
def P1 (s0 v : St) : Prop := (∀ t i, t ≠ 10 → sA v t i = sA s0 t i) ∧ (∀ x, sI v x = sI s0 x) ∧ (∀ x, sJ v x = sJ s0 x) ∧ ∀ i, i < 384 → ¬ sA v 10 i < 0 → oc s0 i = true
theorem dst0_A : ∀ (m e : Nat) (s : St) (t i : Nat), sA (itF dst0 m e s) t i = if t = 10 ∧ e ≤ i ∧ i < e + m then -1 else sA s t i
  | 0, e, s, t, i => by rw [if_neg (by omega)]; rfl
  | m + 1, e, s, t, i => by
    rw [itF, dst0_A m (e + 1)]; unfold dst0; rw [sA_uA]
    by_cases h : t = 10 ∧ e ≤ i ∧ i < e + (m + 1)
    · rw [if_pos h]
      by_cases g : t = 10 ∧ e + 1 ≤ i ∧ i < e + 1 + m
      · rw [if_pos g]
      · rw [if_neg g, if_pos (by omega)]
    · rw [if_neg h, if_neg (by omega), if_neg (by omega)]
theorem dst0_J {x : Nat} : sJ (clS0 s) x = sJ s x := itF_inv (I := fun v => sJ v x = sJ s x) (fun v e g => by unfold dst0; rw [sJ_uA]; exact g) _ _ _ rfl
theorem P1_dc (hE : Ev s) : P1 s (rdA (ifo dcS) (clS0 s)) := by
  obtain ⟨a1, a2⟩ := clS0_kp hE
  refine rdA_ind (J := fun v _ _ => P1 s v) (Kp_ifo Kp_dc) a1 ⟨fun t i ht => ?_, a2, fun x => dst0_J, fun i hi h => ?_⟩ (fun v l q hEv hN hL hl hq hJ => ?_) (fun v l hl h => h)
  · unfold clS0; rw [dst0_A, if_neg (fun g => ht g.1)]
  · unfold clS0 at h; rw [dst0_A, if_pos (by omega)] at h; exact absurd (by decide) h
  · have hb := Ev_nl hEv
    obtain ⟨j1, j2, j3, j4⟩ := hJ
    unfold ifo
    by_cases e : occ v (Int32.ofNat l) (Int32.ofNat q) = true
    · rw [if_pos e, occ_n (by omega) (by omega)] at *
      have A : ∀ w, P1 s (uA v 10 (l * 128 + q) w) := by
        intro w
        refine ⟨fun t i ht => by rw [sA_uA, if_neg (fun g => ht g.1)]; exact j1 t i ht, fun x => by rw [sI_uA]; exact j2 x, fun x => by rw [sJ_uA]; exact j3 x, fun i hi h => ?_⟩
        rw [sA_uA] at h
        by_cases g : i = l * 128 + q
        · subst g; unfold oc at e ⊢; rw [j1 2 _ (by decide)] at e; exact e
        · rw [if_neg (fun z => g z.2)] at h; exact j4 i hi h
      have B : P1 s v := ⟨j1, j2, j3, j4⟩
      have ix := (ixn (l := l) (p := q) (by omega) (by omega)).1
      unfold dcS; rw [ix]; (repeat' split)
      · exact A _
      · exact B
      · exact A _
      · exact B
    · rw [if_neg e]; exact ⟨j1, j2, j3, j4⟩
def P2 (s0 v : St) : Prop := (∀ t i, t ≠ 10 → t ≠ 2 → t ≠ 3 → t ≠ 4 → t ≠ 5 → sA v t i = sA s0 t i) ∧ (∀ x, sI v x = sI s0 x) ∧ (∀ x, x ≠ 17 → sJ v x = sJ s0 x) ∧ (∀ i, i < 384 → ¬ sA v 10 i < 0 → oc v i = true) ∧
  Rg v (nl s0) (ln s0) ∧ cnt (oc v) 0 384 = cnt (oc s0) 0 384 ∧ (∀ i, oc v i = true → ∃ j, oc s0 j = true ∧ j % 128 = i % 128 ∧ sA s0 4 j = sA v 4 i) ∧ Un v
theorem P2_ap (hE : Ev s) (hR : Rg s (nl s) (ln s)) (hU : Un s) : P2 s (clS s) := by
  obtain ⟨a1, a2⟩ := clS0_kp hE
  obtain ⟨b1, b2⟩ := rdA_kp (Kp_ifo Kp_dc) a1
  obtain ⟨q1, q2, q3, q4⟩ := P1_dc hE
  have eo : ∀ i, oc (rdA (ifo dcS) (clS0 s)) i = oc s i := fun i => by unfold oc; rw [q1 2 i (by decide)]
  have eoF : oc (rdA (ifo dcS) (clS0 s)) = oc s := funext eo
  have h0 : P2 s (rdA (ifo dcS) (clS0 s)) := by
    refine ⟨fun t i h _ _ _ _ => q1 t i h, q2, fun x _ => q3 x, fun i hi h => by rw [eo]; exact q4 i hi h, fun i h => hR i (by rw [← eo]; exact h), by rw [eoF], fun i h => ⟨i, by rw [← eo]; exact h, rfl, by rw [q1 4 i (by decide)]⟩, fun i j hi hj h => hU i j (by rw [← eo]; exact hi) (by rw [← eo]; exact hj) ?_⟩
    rw [q1 4 i (by decide), q1 4 j (by decide)] at h; exact h
  refine rdA_ind (J := fun v _ _ => P2 s v) Kp_ap b1 h0 (fun v l q hEv hN hL hl hq hJ => ?_) (fun v l hl h => h)
  clear q1 q2 q3 q4 eo eoF h0 a1 a2
  have hb := Ev_nl hEv
  rw [← hN] at hl; rw [← hL] at hq
  have ix := (ixn (l := l) (p := q) (by omega) (by omega)).1
  obtain ⟨j1, j2, j3, j4, j5, j6, j7, j8⟩ := hJ
  have hNv : nl v = nl s := by unfold nl; rw [j2]
  have hLv : ln v = ln s := by unfold ln; rw [j2]
  unfold apS; rw [ix]
  generalize htt : sA v 10 (l * 128 + q) = t
  split
  · rename_i ht
    have ho := j4 (l * 128 + q) (by omega) (by rw [htt]; exact ht.1)
    have t1 := ht.1; have t2 := ht.2
    rw [lt32] at t1 t2; simp only [Int32.reduceToInt] at t1
    have et : Int32.ofNat t.toNatClampNeg = t := ofn (by have := hEv.2.1; omega)
    have ht3 : t.toNatClampNeg < nl v := by rw [cln]; unfold nl; omega
    have ix2 : (t * 128 + Int32.ofNat q).toNatClampNeg = t.toNatClampNeg * 128 + q := by
      have := (ixn (l := t.toNatClampNeg) (p := q) (by omega) (by omega)).1
      rw [et] at this; exact this
    have eoc : occ v t (Int32.ofNat q) = oc v (t.toNatClampNeg * 128 + q) := by unfold occ oc; rw [ix2]
    rw [eoc, ix2]
    generalize t.toNatClampNeg = tn at *
    split
    · refine ⟨fun t i h1 h2 h3 h4 h5 => by rw [sA_uA, if_neg (fun g => h1 g.1)]; exact j1 t i h1 h2 h3 h4 h5, fun x => by rw [sI_uA]; exact j2 x, fun x hx => by rw [sJ_uA]; exact j3 x hx, fun i hi h => ?_, fun i h => j5 i ?_, ?_, fun i h => ?_, fun i j hi hj h => ?_⟩
      · have : oc (uA v 10 (l * 128 + q) (-1)) i = oc v i := by unfold oc; rw [sA_uA, if_neg (by omega)]
        rw [this]; rw [sA_uA] at h
        by_cases g : i = l * 128 + q
        · subst g; exact ho
        · rw [if_neg (fun z => g z.2)] at h; exact j4 i hi h
      · unfold oc at h ⊢; rw [sA_uA, if_neg (by omega)] at h; exact h
      · rw [← j6]; refine cnt_congr _ _ fun i _ _ => by unfold oc; rw [sA_uA, if_neg (by omega)]
      · have h' : oc v i = true := by unfold oc at h ⊢; rw [sA_uA, if_neg (by omega)] at h; exact h
        rw [sA_uA, if_neg (by omega)]; exact j7 i h'
      · refine j8 i j ?_ ?_ ?_
        · unfold oc at hi ⊢; rw [sA_uA, if_neg (by omega)] at hi; exact hi
        · unfold oc at hj ⊢; rw [sA_uA, if_neg (by omega)] at hj; exact hj
        · rw [sA_uA, if_neg (by omega), sA_uA, if_neg (by omega)] at h; exact h
    · rename_i hno
      have hno' : oc v (tn * 128 + q) = false := by simpa using hno
      have hne : tn * 128 + q ≠ l * 128 + q := fun g => by rw [g] at hno'; rw [hno'] at ho; cases ho
      generalize hv' : uJ (uA (uA (uA (uA (uA (uA v 10 (l * 128 + q) (-1)) 2 (tn * 128 + q) 1) 3 (tn * 128 + q) (sA v 3 (l * 128 + q))) 4 (tn * 128 + q) (sA v 4 (l * 128 + q))) 5 (tn * 128 + q) (sA v 5 (l * 128 + q))) 2 (l * 128 + q) 0) 17 (sJ v 17 + 1) = v'
      have kI : ∀ x, sI v' x = sI v x := fun x => by rw [← hv']; simp only [sI_uJ, sI_uA]
      have kJ : ∀ x, x ≠ 17 → sJ v' x = sJ v x := fun x hx => by rw [← hv']; simp only [sJ_uJ, sJ_uA, hx, if_false]
      have kA : ∀ t i, t ≠ 10 → t ≠ 2 → t ≠ 3 → t ≠ 4 → t ≠ 5 → sA v' t i = sA v t i := fun t i h1 h2 h3 h4 h5 => by rw [← hv']; simp only [sA_uJ, sA_uA, h1, h2, h3, h4, h5, false_and, if_false]
      have k2 : ∀ i, oc v' i = if i = l * 128 + q then false else if i = tn * 128 + q then true else oc v i := fun i => by
        rw [← hv']; unfold oc; simp +decide only [sA_uJ, sA_uA, true_and, false_and, ↓reduceIte]
        by_cases e1 : i = l * 128 + q
        · simp [e1]
        · by_cases e2 : i = tn * 128 + q <;> simp [e1, e2]
      have k4 : ∀ i, sA v' 4 i = if i = tn * 128 + q then sA v 4 (l * 128 + q) else sA v 4 i := fun i => by
        rw [← hv']; simp +decide only [sA_uJ, sA_uA, true_and, false_and, ↓reduceIte]
      have k10 : ∀ i, sA v' 10 i = if i = l * 128 + q then -1 else sA v 10 i := fun i => by
        rw [← hv']; simp +decide only [sA_uJ, sA_uA, true_and, false_and, ↓reduceIte]
      clear hv'
      refine ⟨fun t i h1 h2 h3 h4 h5 => by rw [kA t i h1 h2 h3 h4 h5]; exact j1 t i h1 h2 h3 h4 h5, fun x => by rw [kI]; exact j2 x, fun x hx => by rw [kJ x hx]; exact j3 x hx, fun i hi h => ?_, fun i h => ?_, ?_, fun i h => ?_, fun i j hi hj h => ?_⟩
      · rw [k10] at h; rw [k2]
        by_cases e1 : i = l * 128 + q
        · rw [if_pos e1] at h; exact absurd (by decide) h
        · rw [if_neg e1] at h ⊢
          by_cases e2 : i = tn * 128 + q
          · rw [if_pos e2]
          · rw [if_neg e2]; exact j4 i hi h
      · rw [k2] at h
        by_cases e1 : i = l * 128 + q
        · rw [if_pos e1] at h; cases h
        · rw [if_neg e1] at h
          by_cases e2 : i = tn * 128 + q
          · subst e2; omega
          · rw [if_neg e2] at h; exact j5 i h
      · rw [← j6]
        have c1 := cnt_set (f := oc v) (g := fun i => if i = tn * 128 + q then true else oc v i) (x := tn * 128 + q) 384 0 (by omega) (by omega) hno' (by simp) (fun i hi => by simp [hi])
        have c2 := cnt_set (f := oc v') (g := fun i => if i = tn * 128 + q then true else oc v i) (x := l * 128 + q) 384 0 (by omega) (by omega) (by rw [k2]; simp) (by simp [Ne.symm hne, ho]) (fun i hi => by rw [k2, if_neg hi])
        omega
      · rw [k2] at h; rw [k4]
        by_cases e1 : i = l * 128 + q
        · rw [if_pos e1] at h; cases h
        · rw [if_neg e1] at h
          by_cases e2 : i = tn * 128 + q
          · rw [if_pos e2]
            obtain ⟨j, r1, r2, r3⟩ := j7 _ ho
            exact ⟨j, r1, by rw [r2, e2]; omega, r3⟩
          · rw [if_neg e2] at h ⊢; exact j7 i h
      · rw [k2] at hi hj; rw [k4, k4] at h
        by_cases e1 : i = l * 128 + q
        · rw [if_pos e1] at hi; cases hi
        by_cases f1 : j = l * 128 + q
        · rw [if_pos f1] at hj; cases hj
        rw [if_neg e1] at hi; rw [if_neg f1] at hj
        by_cases e2 : i = tn * 128 + q
        · by_cases f2 : j = tn * 128 + q
          · omega
          · rw [if_pos e2, if_neg f2] at h; rw [if_neg f2] at hj
            exact absurd (j8 _ _ ho hj h).symm f1
        · by_cases f2 : j = tn * 128 + q
          · rw [if_neg e2, if_pos f2] at h; rw [if_neg e2] at hi
            exact absurd (j8 _ _ hi ho h) e1
          · rw [if_neg e2, if_neg f2] at h; rw [if_neg e2] at hi; rw [if_neg f2] at hj; exact j8 i j hi hj h
  · exact ⟨j1, j2, j3, j4, j5, j6, j7, j8⟩
theorem wrp_nn {x : Int32} (hE : Ev s) (h : 0 ≤ x.toInt) : (wrp s x).toInt = x.toInt % (sI s 0).toInt := by
  have hb := hE.1
  obtain ⟨r1, r2, r3⟩ := rem_rg' (x := x) (y := sI s 0) (by omega)
  have r4 : x.toInt.tmod (sI s 0).toInt = x.toInt % (sI s 0).toInt := Int.tmod_eq_emod_of_nonneg h
  have r5 : 0 ≤ x.toInt % (sI s 0).toInt := Int.emod_nonneg _ (by omega)
  unfold wrp; rw [if_neg (by rw [lt32]; simp only [Int32.reduceToInt]; omega)]; omega
theorem wrp_n {q j : Nat} (hE : Ev s) (hq : q < 128) (hj : j < 100) : wrp s (Int32.ofNat q + Int32.ofNat j) = Int32.ofNat ((q + j) % ln s) := by
  have hb := hE.1
  have e1 := (ofi (i := q) (by omega)).1
  have e2 := (ofi (i := j) (by omega)).1
  have e3 : (Int32.ofNat q + Int32.ofNat j).toInt = q + j := by rw [ia (by omega) (by omega), e1, e2]
  have hm : (q + j) % ln s < ln s := Nat.mod_lt _ (by unfold ln; omega)
  have hl : (ln s : Int) = (sI s 0).toInt := by unfold ln; omega
  rw [eq32, wrp_nn hE (by omega), e3, (ofi (i := (q + j) % ln s) (by unfold ln at hm ⊢; omega)).1, ← hl]
  rw [Int.natCast_emod, Int.natCast_add]
def Gd (s : St) (l q w : Nat) : Prop := (w : Int) ≤ (sI s 2).toInt ∧ ∀ j, 1 ≤ j → j ≤ w → oc s (l * 128 + (q + j) % ln s) = false ∧ (sI s 10 = 0 ∨ ¬ (sI s 4).toInt = (((q + j) % ln s : Nat) : Int))
def P3 (s0 v : St) (l q : Nat) : Prop := (∀ t i, t ≠ 11 → sA v t i = sA s0 t i) ∧ (∀ x, x ≠ 3 → sI v x = sI s0 x) ∧ (∀ x, sJ v x = sJ s0 x) ∧
  ∀ l' q', l' < nl s0 → q' < ln s0 → (l' < l ∨ (l' = l ∧ q' < q)) → oc s0 (l' * 128 + q') = true → ∃ w : Nat, (sA v 11 (l' * 128 + q')).toInt = w ∧ Gd s0 l' q' w
theorem P3_sp (hE : Ev s) : P3 s (csS s) (nl s) 0 := by
  refine rdA_ind (J := P3 s) (Kp_ifo Kp_sp) hE ⟨fun _ _ _ => rfl, fun _ _ => rfl, fun _ => rfl, fun l' q' _ _ h => by omega⟩ (fun v l q hEv hN hL hl hq hJ => ?_) (fun v l hl h => ?_)
  · have hb := Ev_nl hEv
    obtain ⟨j1, j2, j3, j4⟩ := hJ
    have ix := (ixn (l := l) (p := q) (by omega) (by omega)).1
    have eo : ∀ i, oc v i = oc s i := fun i => by unfold oc; rw [j1 2 i (by decide)]
    unfold ifo
    by_cases e : occ v (Int32.ofNat l) (Int32.ofNat q) = true
    · rw [if_pos e]
      have kA : ∀ t i, t ≠ 11 → sA (spS v (Int32.ofNat l) (Int32.ofNat q)) t i = sA v t i := fun t i ht => by unfold spS; rw [sA_uA, if_neg (fun g => ht g.1), sA_uI]
      refine ⟨fun t i ht => by rw [kA t i ht]; exact j1 t i ht, fun x hx => by unfold spS; rw [sI_uA, sI_uI, if_neg hx]; exact j2 x hx, fun x => by unfold spS; rw [sJ_uA, sJ_uI]; exact j3 x, fun l' q' hl' hq' hlt ho => ?_⟩
      have k11 : sA (spS v (Int32.ofNat l) (Int32.ofNat q)) 11 (l' * 128 + q') = if l' * 128 + q' = l * 128 + q then spV v (Int32.ofNat l) (Int32.ofNat q) else sA v 11 (l' * 128 + q') := by
        unfold spS; rw [ix, sA_uA, sA_uI]; simp only [true_and]
      rw [k11]
      by_cases g : l' * 128 + q' = l * 128 + q
      · rw [if_pos g]
        have : l' = l ∧ q' = q := by omega
        obtain ⟨rfl, rfl⟩ := this
        obtain ⟨r1, r2, r3⟩ := spV_rg (s := v) (a := Int32.ofNat l') (b := Int32.ofNat q') hEv
        obtain ⟨g1', g2'⟩ := gp_rg (s := v) (a := Int32.ofNat l') (b := Int32.ofNat q') hEv
        have h2 := j2 2 (by decide)
        refine ⟨(spV v (Int32.ofNat l') (Int32.ofNat q')).toInt.toNat, by omega, by rw [← h2]; omega, fun j hj1 hj2 => ?_⟩
        have hv5 := hEv.2.2.1
        have ej := (ofi (i := j) (by omega)).1
        have := g2' (Int32.ofNat j) (by omega) (by omega)
        rw [wrp_n hEv (by omega) (by omega)] at this
        have hm : (q' + j) % ln v < ln v := Nat.mod_lt _ (by omega)
        unfold blk' at this; rw [occ_n (by omega) (by omega), Bool.or_eq_false_iff] at this
        rw [hL] at this hm
        refine ⟨by rw [← eo]; exact this.1, ?_⟩
        have t2 := of_decide_eq_false this.2
        rw [j2 10 (by decide), j2 4 (by decide), eq32 (y := sI s 4), (ofi (i := (q' + j) % ln s) (by omega)).1] at t2
        by_cases z : sI s 10 = 0
        · exact Or.inl z
        · exact Or.inr fun g => t2 ⟨z, g.symm⟩
      · rw [if_neg g]; exact j4 l' q' hl' hq' (by omega) ho
    · rw [if_neg e]
      refine ⟨j1, j2, j3, fun l' q' hl' hq' hlt ho => ?_⟩
      rw [occ_n (by omega) (by omega), eo] at e
      exact j4 l' q' hl' hq' (by
        rcases hlt with h | ⟨h1, h2⟩
        · exact Or.inl h
        · refine Or.inr ⟨h1, ?_⟩
          rcases Nat.lt_or_ge q' q with h | h
          · exact h
          · exfalso; apply e; rw [show q = q' by omega, ← h1]; exact ho) ho
  · obtain ⟨j1, j2, j3, j4⟩ := h
    exact ⟨j1, j2, j3, fun l' q' hl' hq' hlt ho => j4 l' q' hl' hq' (by omega) ho⟩
end E

section F
variable {s s' s0 s1 : St} {a b c d : Int32} {k n m : Nat}
theorem ofn64 (x : Int64) (m n : Nat) : x + Int64.ofNat m + Int64.ofNat n = x + Int64.ofNat (m + n) := by rw [Int64.ofNat_add, Int64.add_assoc]
theorem ofn64z (x : Int64) : x + Int64.ofNat 0 = x := Int64.add_zero x
theorem ofn32s (x : Int32) (n : Nat) : x - Int32.ofNat n - 1 = x - Int32.ofNat (n + 1) := by
  rw [Int32.ofNat_add, Int32.sub_eq_add_neg, Int32.sub_eq_add_neg, Int32.sub_eq_add_neg, Int32.neg_add, Int32.add_assoc, Int32.sub_eq_add_neg]; rfl
theorem dt1_J {v : St} {e x : Nat} : sJ (dt1 c v e) x = sJ v x := by unfold dt1; split; rw [sJ_uB]; rfl
theorem cp1_J {x : Nat} : sJ (cp1 s c) x = sJ (cp0 s c) x := itF_inv (f := dt1 c) (I := fun v => sJ v x = sJ (cp0 s c) x) (fun v e g => by rw [dt1_J]; exact g) 4 0 _ rfl
theorem cpF_st {q : Nat} (hq : q < 128) : ∀ (m k' : Nat) (s : St), Ev s → k' + m < 100 → ∃ w, w ≤ m ∧ sJ (cpF (Int32.ofNat q) m (Int32.ofNat k') s) 18 = sJ s 18 + Int64.ofNat w ∧ (∀ x, x ≠ 18 → sJ (cpF (Int32.ofNat q) m (Int32.ofNat k') s) x = sJ s x) ∧
    ((∀ j, k' ≤ j → j < k' + m → ¬ (sI s 4).toInt = (((q + j) % ln s : Nat) : Int)) → w = 0)
  | 0, k', s, hE, hk => ⟨0, Nat.le_refl _, (ofn64z _).symm, fun _ _ => rfl, fun _ => rfl⟩
  | m + 1, k', s, hE, hk => by
    obtain ⟨a1, a2, a3⟩ := cp1_kp (c := wrp s (Int32.ofNat q + Int32.ofNat k')) hE
    obtain ⟨w, h1, h2, h3, h4⟩ := cpF_st hq m (k' + 1) (cp1 s (wrp s (Int32.ofNat q + Int32.ofNat k'))) a1 (by omega)
    have el : ln (cp1 s (wrp s (Int32.ofNat q + Int32.ofNat k'))) = ln s := by unfold ln; rw [a2]
    rw [el, a2] at h4
    rw [Int32.ofNat_add] at h2 h3
    have hw := wrp_n (j := k') hE hq (by omega)
    have hm : (q + k') % ln s < ln s := Nat.mod_lt _ (by have := Ev_nl hE; omega)
    have e0 : (Int32.ofNat ((q + k') % ln s)).toInt = (((q + k') % ln s : Nat) : Int) := (ofi (by have := Ev_nl hE; omega)).1
    rw [cpF]
    by_cases g : ¬ sI s 4 < 0 ∧ wrp s (Int32.ofNat q + Int32.ofNat k') = sI s 4
    · refine ⟨1 + w, by omega, ?_, fun x hx => ?_, fun hj => ?_⟩
      · rw [show (Int32.ofNat k' + 1 : Int32) = Int32.ofNat k' + Int32.ofNat 1 from rfl, h2, cp1_J, cp0, if_pos g, sJ_uJ, if_pos rfl, ← ofn64]; rfl
      · rw [show (Int32.ofNat k' + 1 : Int32) = Int32.ofNat k' + Int32.ofNat 1 from rfl, h3 x hx, cp1_J, cp0, if_pos g, sJ_uJ, if_neg hx]
      · exact absurd (by rw [← g.2, hw, e0]) (hj k' (by omega) (by omega))
    · refine ⟨w, by omega, ?_, fun x hx => ?_, fun hj => h4 fun j j1 j2 => hj j (by omega) (by omega)⟩
      · rw [show (Int32.ofNat k' + 1 : Int32) = Int32.ofNat k' + Int32.ofNat 1 from rfl, h2, cp1_J, cp0, if_neg g]
      · rw [show (Int32.ofNat k' + 1 : Int32) = Int32.ofNat k' + Int32.ofNat 1 from rfl, h3 x hx, cp1_J, cp0, if_neg g]
theorem mv_sp {v : St} {l q w : Nat} (hE : Ev v) (hl : l < nl v) (hq : q < ln v) (hw : (sA v 11 (l * 128 + q)).toInt = w) : ∃ c, c ≤ w ∧
    (∀ x, x ≠ 14 → x ≠ 16 → x ≠ 18 → sJ (mvS v (Int32.ofNat l) (Int32.ofNat q)) x = sJ v x) ∧ sJ (mvS v (Int32.ofNat l) (Int32.ofNat q)) 16 = sJ v 16 + Int64.ofNat w ∧ sJ (mvS v (Int32.ofNat l) (Int32.ofNat q)) 18 = sJ v 18 + Int64.ofNat c ∧
    ((∀ j, 1 ≤ j → j ≤ w → ¬ (sI v 4).toInt = (((q + j) % ln v : Nat) : Int)) → c = 0) ∧
    (((∀ t i, sA (mvS v (Int32.ofNat l) (Int32.ofNat q)) t i = sA v t i) ∧ (∀ x, sI (mvS v (Int32.ofNat l) (Int32.ofNat q)) x = if x = 12 then sI v 12 - 1 else sI v x) ∧ sJ (mvS v (Int32.ofNat l) (Int32.ofNat q)) 14 = sJ v 14 + 1) ∨
     ((∀ t i, sA (mvS v (Int32.ofNat l) (Int32.ofNat q)) t i = if i = l * 128 + (q + w) % ln v ∧ (t = 6 ∨ t = 7 ∨ t = 8 ∨ t = 9) then (if t = 6 then 1 else if t = 7 then sA v 11 (l * 128 + q) else if t = 8 then sA v 4 (l * 128 + q) else sA v 5 (l * 128 + q)) else sA v t i) ∧ (∀ x, sI (mvS v (Int32.ofNat l) (Int32.ofNat q)) x = sI v x) ∧ sJ (mvS v (Int32.ofNat l) (Int32.ofNat q)) 14 = sJ v 14)) := by
  have hb := Ev_nl hE
  have h5 := hE.2.2.1
  have hvr : vr v (sA v 11 (l * 128 + q)) := Evv hE (by simp)
  unfold vr at hvr
  have ix := (ixn (l := l) (p := q) (by omega) (by omega)).1
  unfold mvS; rw [ix]
  generalize sA v 11 (l * 128 + q) = y at *
  have ey : y = Int32.ofNat w := by rw [eq32, (ofi (by omega)).1]; exact hw
  have ey64 : y.toInt64 = Int64.ofNat w := by
    rw [eq64, Int32.toInt_toInt64, hw, Int64.toInt_ofNat_of_lt (by omega)]
  obtain ⟨a1, a2, a3⟩ := mv0_kp (v := y) hE
  have eln : ln (mv0 v y) = ln v := by unfold ln; rw [a2]
  have mJ : ∀ x, sJ (mv0 v y) x = if x = 16 then sJ v 16 + Int64.ofNat w else sJ v x := fun x => by
    unfold mv0; rw [sJ_uJ, ey64]
  have hx := exP_rg (s := mv0 v y) (a := Int32.ofNat l) (b := Int32.ofNat q) (c := y) (by omega)
  unfold mvv
  by_cases g : 0 < exP (mv0 v y) (Int32.ofNat l) (Int32.ofNat q) y
  · rw [if_pos g]
    generalize exP (mv0 v y) (Int32.ofNat l) (Int32.ofNat q) y = j at *
    rw [lt32] at g; simp only [Int32.reduceToInt] at g
    obtain ⟨c, c1, c2, c3, c4⟩ := cpF_st (q := q) (by omega) j.toInt.toNat 1 (mv0 v y) a1 (by omega)
    obtain ⟨b1, b2, b3⟩ := cpS_kp (a := Int32.ofNat q) (b := j) a1
    rw [eln, a2] at c4
    have eS : cpF (Int32.ofNat q) j.toInt.toNat (Int32.ofNat 1) (mv0 v y) = cpS (mv0 v y) (Int32.ofNat q) j := rfl
    rw [eS] at c2 c3
    generalize cpS (mv0 v y) (Int32.ofNat q) j = z at *
    have e16 := c3 16 (by decide); have e14 := c3 14 (by decide)
    rw [mJ] at e16 e14 c2; simp +decide only [↓reduceIte] at e16 e14 c2
    refine ⟨c, by omega, fun x x1 x2 x3 => ?_, ?_, ?_, fun hj => c4 fun j j1 j2 => hj j j1 (by omega), Or.inl ⟨fun t i => ?_, fun x => ?_, ?_⟩⟩
    · unfold mvX; rw [sJ_uI, sJ_uJ, if_neg x1, c3 x x3, mJ, if_neg x2]
    · unfold mvX; rw [sJ_uI, sJ_uJ, if_neg (by decide), e16]
    · unfold mvX; rw [sJ_uI, sJ_uJ, if_neg (by decide), c2]
    · unfold mvX; rw [sA_uI, sA_uJ, b3, a3]
    · unfold mvX; simp only [sI_uI, sI_uJ, b2, a2]
    · unfold mvX; rw [sJ_uI, sJ_uJ, if_pos rfl, e14]
  · rw [if_neg g]
    obtain ⟨c, c1, c2, c3, c4⟩ := cpF_st (q := q) (by omega) y.toInt.toNat 1 (mv0 v y) a1 (by omega)
    obtain ⟨b1, b2, b3⟩ := cpS_kp (a := Int32.ofNat q) (b := y) a1
    rw [eln, a2] at c4
    have eS : cpF (Int32.ofNat q) y.toInt.toNat (Int32.ofNat 1) (mv0 v y) = cpS (mv0 v y) (Int32.ofNat q) y := rfl
    rw [eS] at c2 c3
    have hm : (q + w) % ln v < ln v := Nat.mod_lt _ (by omega)
    have et : (Int32.ofNat l * 128 + wrp v (Int32.ofNat q + y)).toNatClampNeg = l * 128 + (q + w) % ln v := by
      rw [ey, wrp_n hE (by omega) (by omega)]; exact (ixn (by omega) (by omega)).1
    generalize cpS (mv0 v y) (Int32.ofNat q) y = z at *
    have e16 := c3 16 (by decide); have e14 := c3 14 (by decide)
    rw [mJ] at e16 e14 c2; simp +decide only [↓reduceIte] at e16 e14 c2
    refine ⟨c, by omega, fun x x1 x2 x3 => ?_, ?_, ?_, fun hj => c4 fun j j1 j2 => hj j j1 (by omega), Or.inr ⟨fun t i => ?_, fun x => ?_, ?_⟩⟩
    · simp only [mvP, sJ_uA]; rw [c3 x x3, mJ, if_neg x2]
    · simp only [mvP, sJ_uA]; rw [e16]
    · simp only [mvP, sJ_uA]; rw [c2]
    · simp only [mvP, sA_uA, et, ix, b3, a3]
      by_cases e : i = l * 128 + (q + w) % ln v
      · by_cases t6 : t = 6
        · subst t6; simp [e]
        by_cases t7 : t = 7
        · subst t7; simp [e]
        by_cases t8 : t = 8
        · subst t8; simp [e]
        by_cases t9 : t = 9
        · subst t9; simp [e]
        · simp [t6, t7, t8, t9]
      · simp [e]
    · simp only [mvP, sI_uA, b2, a2]
    · simp only [mvP, sJ_uA]; rw [e14]
theorem mod2 {x L : Nat} (h : x < L + L) : x % L = if x < L then x else x - L := by
  split
  · rename_i g; exact Nat.mod_eq_of_lt g
  · rw [Nat.mod_eq_sub_mod (by omega), Nat.mod_eq_of_lt (by omega)]
theorem nomeet {q q' w w' L : Nat} (hL : 8 ≤ L) (hq : q < L) (hq' : q' < L) (hw : w ≤ 5) (hw' : w' ≤ 5) (e : (q + w) % L = (q' + w') % L) (h1 : ∀ j, 1 ≤ j → j ≤ w → (q + j) % L ≠ q') (h2 : ∀ j, 1 ≤ j → j ≤ w' → (q' + j) % L ≠ q) : q = q' := by
  rw [mod2 (by omega), mod2 (by omega)] at e
  rcases Nat.lt_trichotomy w w' with g | g | g
  · have := h2 (w' - w) (by omega) (by omega)
    rw [mod2 (by omega)] at this
    split at e <;> split at e <;> split at this <;> omega
  · split at e <;> split at e <;> omega
  · have := h1 (w - w') (by omega) (by omega)
    rw [mod2 (by omega)] at this
    split at e <;> split at e <;> split at this <;> omega
def P4 (s0 v : St) (l q : Nat) : Prop := (∀ x, x ≠ 12 → sI v x = sI s0 x) ∧ (∀ t i, t ≠ 6 → t ≠ 7 → t ≠ 8 → t ≠ 9 → sA v t i = sA s0 t i) ∧ (∀ x, x ≠ 14 → x ≠ 16 → x ≠ 18 → sJ v x = sJ s0 x) ∧
  (∃ e d c : Nat, sJ v 14 = sJ s0 14 + Int64.ofNat e ∧ sI v 12 = sI s0 12 - Int32.ofNat e ∧ sJ v 16 = sJ s0 16 + Int64.ofNat d ∧ sJ v 18 = sJ s0 18 + Int64.ofNat c ∧ cnt (no v) 0 384 + e = cnt (oc s0) 0 (l * 128 + q) ∧ d ≤ (sI s0 2).toInt.toNat * cnt (oc s0) 0 (l * 128 + q) ∧ c ≤ d ∧ (¬ sI s0 10 = 0 → c = 0)) ∧
  ∀ i, no v i = true → i < 384 → ∃ l' q' w : Nat, l' < nl s0 ∧ q' < ln s0 ∧ (l' < l ∨ (l' = l ∧ q' < q)) ∧ oc s0 (l' * 128 + q') = true ∧ (sA s0 11 (l' * 128 + q')).toInt = w ∧ i = l' * 128 + (q' + w) % ln s0 ∧ sA v 8 i = sA s0 4 (l' * 128 + q')
theorem cnt_lane (hR : Rg s (nl s) (ln s)) (hL : ln s ≤ 128) {l : Nat} : cnt (oc s) 0 (l * 128 + ln s) = cnt (oc s) 0 ((l + 1) * 128) := by
  rw [show (l + 1) * 128 = (l * 128 + ln s) + (128 - ln s) by omega, cnt_split (l * 128 + ln s), cnt_none (128 - ln s), Nat.add_zero]
  intro i h1 h2
  cases e : oc s i
  · rfl
  · have := (hR i e).2; omega
theorem P4_mv (hE : Ev s) (hR : Rg s (nl s) (ln s)) (hn : ∀ i, i < 384 → no s i = false) (hG : ∀ l q, l < nl s → q < ln s → oc s (l * 128 + q) = true → ∃ w : Nat, (sA s 11 (l * 128 + q)).toInt = w ∧ Gd s l q w) : P4 s (rdA (ifo mvS) s) (nl s) 0 := by
  have hb0 := Ev_nl hE
  refine rdA_ind (J := P4 s) (Kp_ifo Kp_mv) hE ⟨fun _ _ => rfl, fun _ _ _ _ _ _ => rfl, fun _ _ _ _ => rfl, ⟨0, 0, 0, (ofn64z _).symm, (Int32.sub_zero _).symm, (ofn64z _).symm, (ofn64z _).symm, ?_, Nat.zero_le _, Nat.le_refl _, fun _ => rfl⟩, fun i h hi => by rw [hn i hi] at h; cases h⟩ (fun v l q hEv hN hL hl hq hJ => ?_) (fun v l hl hJ => ?_)
  · rw [cnt_none 384 0 fun i _ hi => hn i (by omega)]; rfl
  · obtain ⟨j1, j2, j3, ⟨e, d, c, k1, k2, k3, k4, k5, k6, k7, k8⟩, j5⟩ := hJ
    have eo : ∀ i, oc v i = oc s i := fun i => by unfold oc; rw [j2 2 i (by decide) (by decide) (by decide) (by decide)]
    unfold ifo; rw [occ_n (by omega) (by omega), eo]
    have cs := cnt_s (f := oc s) (l * 128 + q) 0
    rw [Nat.zero_add] at cs
    by_cases o : oc s (l * 128 + q) = true
    · rw [if_pos o]
      rw [if_pos o] at cs
      obtain ⟨w, w1, w2, w3⟩ := hG l q hl hq o
      have hv5 := hE.2.2.1
      obtain ⟨cc, m1, m2, m3, m4, m5, m6⟩ := mv_sp (v := v) (l := l) (q := q) (w := w) hEv (by omega) (by omega) (by rw [j2 11 _ (by decide) (by decide) (by decide) (by decide)]; exact w1)
      rw [hL, j1 4 (by decide)] at m5
      have dK : d + w ≤ (sI s 2).toInt.toNat * cnt (oc s) 0 (l * 128 + q + 1) := by
        rw [cs, Nat.mul_add]; omega
      have cK : ¬ sI s 10 = 0 → cc = 0 := fun z => m5 fun j a1 a2 => by
        rcases (w3 j a1 a2).2 with h | h
        · exact absurd h z
        · exact h
      rcases m6 with ⟨n1, n2, n3⟩ | ⟨n1, n2, n3⟩
      · have en : no (mvS v (Int32.ofNat l) (Int32.ofNat q)) = no v := funext fun i => by unfold no; rw [n1]
        refine ⟨fun x hx => by rw [n2, if_neg hx]; exact j1 x hx, fun t i t6 t7 t8 t9 => by rw [n1]; exact j2 t i t6 t7 t8 t9, fun x x1 x2 x3 => by rw [m2 x x1 x2 x3]; exact j3 x x1 x2 x3, ⟨e + 1, d + w, c + cc, ?_, ?_, ?_, ?_, ?_, dK, by omega, fun z => by rw [k8 z, cK z]⟩, fun i h hi => ?_⟩
        · rw [n3, k1, ← ofn64]; rfl
        · rw [n2, if_pos rfl, k2, ofn32s]
        · rw [m3, k3, ofn64]
        · rw [m4, k4, ofn64]
        · rw [en]; show _ = cnt (oc s) 0 (l * 128 + q + 1); rw [cs]; omega
        · rw [en] at h
          obtain ⟨l', q', w', r1, r2, r3, r4, r5, r6, r7⟩ := j5 i h hi
          exact ⟨l', q', w', r1, r2, by omega, r4, r5, r6, by rw [n1]; exact r7⟩
      · rw [hL] at n1
        have hm : (q + w) % ln s < ln s := Nat.mod_lt _ (by omega)
        have hT : l * 128 + (q + w) % ln s < 384 := by omega
        have nT : no v (l * 128 + (q + w) % ln s) = false := by
          cases z : no v (l * 128 + (q + w) % ln s)
          · rfl
          · exfalso
            obtain ⟨l', q', w', r1, r2, r3, r4, r5, r6, -⟩ := j5 _ z hT
            have hm' : (q' + w') % ln s < ln s := Nat.mod_lt _ (by omega)
            have el : l' = l := by omega
            subst el
            obtain ⟨w'', u1, u2, u3⟩ := hG l' q' r1 r2 r4
            have ew : w'' = w' := by omega
            subst ew
            have := nomeet (q := q) (q' := q') (w := w) (w' := w'') (L := ln s) (by omega) hq r2 (by omega) (by omega) (by omega) (fun j a1 a2 g => by
              have := (w3 j a1 a2).1; rw [g, r4] at this; cases this) (fun j a1 a2 g => by
              have := (u3 j a1 a2).1; rw [g, o] at this; cases this)
            omega
        have k6n : ∀ i, no (mvS v (Int32.ofNat l) (Int32.ofNat q)) i = if i = l * 128 + (q + w) % ln s then true else no v i := fun i => by
          unfold no; rw [n1]
          by_cases g : i = l * 128 + (q + w) % ln s
          · rw [if_pos ⟨g, Or.inl rfl⟩, if_pos g]; rfl
          · rw [if_neg (fun z => g z.1), if_neg g]
        refine ⟨fun x hx => by rw [n2]; exact j1 x hx, fun t i t6 t7 t8 t9 => by rw [n1, if_neg (by omega)]; exact j2 t i t6 t7 t8 t9, fun x x1 x2 x3 => by rw [m2 x x1 x2 x3]; exact j3 x x1 x2 x3, ⟨e, d + w, c + cc, ?_, ?_, ?_, ?_, ?_, dK, by omega, fun z => by rw [k8 z, cK z]⟩, fun i h hi => ?_⟩
        · rw [n3, k1]
        · rw [n2, k2]
        · rw [m3, k3, ofn64]
        · rw [m4, k4, ofn64]
        · show _ = cnt (oc s) 0 (l * 128 + q + 1); rw [cs]
          have := cnt_set (f := no v) (g := no (mvS v (Int32.ofNat l) (Int32.ofNat q))) (x := l * 128 + (q + w) % ln s) 384 0 (by omega) (by omega) nT (by rw [k6n, if_pos rfl]) (fun i hi => by rw [k6n, if_neg hi])
          omega
        · rw [k6n] at h
          by_cases g : i = l * 128 + (q + w) % ln s
          · refine ⟨l, q, w, hl, hq, by omega, o, w1, g, ?_⟩
            rw [n1, if_pos ⟨g, by simp⟩]; simp +decide only [↓reduceIte]
            exact j2 4 _ (by decide) (by decide) (by decide) (by decide)
          · rw [if_neg g] at h
            obtain ⟨l', q', w', r1, r2, r3, r4, r5, r6, r7⟩ := j5 i h hi
            exact ⟨l', q', w', r1, r2, by omega, r4, r5, r6, by rw [n1, if_neg (fun z => g z.1)]; exact r7⟩
    · rw [if_neg o]
      rw [if_neg o] at cs
      refine ⟨j1, j2, j3, ⟨e, d, c, k1, k2, k3, k4, ?_, ?_, k7, k8⟩, fun i h hi => ?_⟩
      · show _ = cnt (oc s) 0 (l * 128 + q + 1); rw [cs]; exact k5
      · show _ ≤ _ * cnt (oc s) 0 (l * 128 + q + 1); rw [cs]; exact k6
      · obtain ⟨l', q', w', r1, r2, r3, r4, r5, r6, r7⟩ := j5 i h hi
        exact ⟨l', q', w', r1, r2, by omega, r4, r5, r6, r7⟩
  · obtain ⟨j1, j2, j3, ⟨e, d, c, k1, k2, k3, k4, k5, k6, k7, k8⟩, j5⟩ := hJ
    have cl' := cnt_lane (l := l) hR (by omega)
    refine ⟨j1, j2, j3, ⟨e, d, c, k1, k2, k3, k4, by rw [Nat.add_zero, ← cl']; exact k5, by rw [Nat.add_zero, ← cl']; exact k6, k7, k8⟩, fun i h hi => ?_⟩
    obtain ⟨l', q', w', r1, r2, r3, r4, r5, r6, r7⟩ := j5 i h hi
    exact ⟨l', q', w', r1, r2, by omega, r4, r5, r6, r7⟩
theorem nz0_A : ∀ (m e : Nat) (s : St) (t i : Nat), sA (itF nz0 m e s) t i = if (t = 6 ∨ t = 7 ∨ t = 8 ∨ t = 9) ∧ e ≤ i ∧ i < e + m then 0 else sA s t i
  | 0, e, s, t, i => by rw [if_neg (by omega)]; rfl
  | m + 1, e, s, t, i => by
    rw [itF, nz0_A m (e + 1)]
    have K : sA (nz0 s e) t i = if (t = 6 ∨ t = 7 ∨ t = 8 ∨ t = 9) ∧ i = e then 0 else sA s t i := by
      unfold nz0; simp only [sA_uA]
      by_cases g : i = e
      · by_cases t6 : t = 6
        · simp [t6, g]
        by_cases t7 : t = 7
        · simp [t7, g]
        by_cases t8 : t = 8
        · simp [t8, g]
        by_cases t9 : t = 9
        · simp [t9, g]
        · simp [t6, t7, t8, t9]
      · simp [g]
    rw [K]
    by_cases h : (t = 6 ∨ t = 7 ∨ t = 8 ∨ t = 9) ∧ e ≤ i ∧ i < e + (m + 1)
    · rw [if_pos h]
      by_cases g : (t = 6 ∨ t = 7 ∨ t = 8 ∨ t = 9) ∧ e + 1 ≤ i ∧ i < e + 1 + m
      · rw [if_pos g]
      · rw [if_neg g, if_pos ⟨h.1, by omega⟩]
    · rw [if_neg h, if_neg (by omega), if_neg (by omega)]
theorem nz0_J {x : Nat} : sJ (mvA0 s) x = sJ s x := itF_inv (I := fun v => sJ v x = sJ s x) (fun v e g => by unfold nz0; simp only [sJ_uA]; exact g) _ _ _ rfl
theorem cpy_J {x : Nat} : sJ (itF cpy 384 0 s) x = sJ s x := itF_inv (I := fun v => sJ v x = sJ s x) (fun v e g => by unfold cpy; simp only [sJ_uA]; exact g) _ _ _ rfl
theorem cpy_A : ∀ (m e : Nat) (s : St) (t i : Nat), sA (itF cpy m e s) t i = if (t = 2 ∨ t = 3 ∨ t = 4 ∨ t = 5) ∧ e ≤ i ∧ i < e + m then sA s (t + 4) i else sA s t i
  | 0, e, s, t, i => by rw [if_neg (by omega)]; rfl
  | m + 1, e, s, t, i => by
    rw [itF, cpy_A m (e + 1)]
    have K : ∀ t, sA (cpy s e) t i = if (t = 2 ∨ t = 3 ∨ t = 4 ∨ t = 5) ∧ i = e then sA s (t + 4) i else sA s t i := by
      intro t
      unfold cpy; simp only [sA_uA]
      by_cases g : i = e
      · by_cases t6 : t = 2
        · simp [t6, g]
        by_cases t7 : t = 3
        · simp [t7, g]
        by_cases t8 : t = 4
        · simp [t8, g]
        by_cases t9 : t = 5
        · simp [t9, g]
        · simp [t6, t7, t8, t9]
      · simp [g]
    rw [K, K]
    by_cases h : (t = 2 ∨ t = 3 ∨ t = 4 ∨ t = 5) ∧ e ≤ i ∧ i < e + (m + 1)
    · rw [if_pos h]
      by_cases g : (t = 2 ∨ t = 3 ∨ t = 4 ∨ t = 5) ∧ e + 1 ≤ i ∧ i < e + 1 + m
      · rw [if_pos g, if_neg (by omega)]
      · rw [if_neg g, if_pos ⟨h.1, by omega⟩]
    · rw [if_neg h, if_neg (by omega), if_neg (by omega)]
def P5 (s v : St) : Prop := (∀ x, x ≠ 12 → sI v x = sI s x) ∧ (∀ x, x ≠ 14 → x ≠ 16 → x ≠ 18 → sJ v x = sJ s x) ∧ (∀ t i, t = 1 ∨ t = 12 → sA v t i = sA s t i) ∧ Rg v (nl s) (ln s) ∧ Un v ∧
  (∃ e d c : Nat, sJ v 14 = sJ s 14 + Int64.ofNat e ∧ sI v 12 = sI s 12 - Int32.ofNat e ∧ sJ v 16 = sJ s 16 + Int64.ofNat d ∧ sJ v 18 = sJ s 18 + Int64.ofNat c ∧ cnt (oc v) 0 384 + e = cnt (oc s) 0 384 ∧ d ≤ (sI s 2).toInt.toNat * cnt (oc s) 0 384 ∧ c ≤ d ∧ (¬ sI s 10 = 0 → c = 0)) ∧
  ∀ i, oc v i = true → ∃ l' q' w : Nat, l' < nl s ∧ q' < ln s ∧ oc s (l' * 128 + q') = true ∧ Gd s l' q' w ∧ i = l' * 128 + (q' + w) % ln s ∧ sA v 4 i = sA s 4 (l' * 128 + q')
set_option maxHeartbeats 1000000 in
theorem P5_mv (hE : Ev s) (hR : Rg s (nl s) (ln s)) (hU : Un s) (hG : ∀ l q, l < nl s → q < ln s → oc s (l * 128 + q) = true → ∃ w : Nat, (sA s 11 (l * 128 + q)).toInt = w ∧ Gd s l q w) : P5 s (mvA s) := by
  have hb0 := Ev_nl hE
  obtain ⟨a1, a2⟩ := mvA0_kp hE
  have z6 : ∀ t i, sA (mvA0 s) t i = if (t = 6 ∨ t = 7 ∨ t = 8 ∨ t = 9) ∧ i < 384 then 0 else sA s t i := fun t i => by
    unfold mvA0; rw [nz0_A]; simp only [Nat.zero_le, true_and, Nat.zero_add]
  have zo : ∀ t i, t ≠ 6 → t ≠ 7 → t ≠ 8 → t ≠ 9 → sA (mvA0 s) t i = sA s t i := fun t i h6 h7 h8 h9 => by rw [z6, if_neg (by omega)]
  have eo : ∀ i, oc (mvA0 s) i = oc s i := fun i => by unfold oc; rw [zo 2 i (by decide) (by decide) (by decide) (by decide)]
  have eoF : oc (mvA0 s) = oc s := funext eo
  have eN : nl (mvA0 s) = nl s := by unfold nl; rw [a2]
  have eL : ln (mvA0 s) = ln s := by unfold ln; rw [a2]
  have eG : ∀ l q w, Gd s l q w → Gd (mvA0 s) l q w := fun l q w h => by unfold Gd at *; rw [eL, a2, a2, a2, eoF]; exact h
  have M := P4_mv (s := mvA0 s) a1 (by rw [eN, eL]; intro i h; exact hR i (by rw [← eo]; exact h)) (fun i hi => by unfold no; rw [z6, if_pos ⟨by simp, hi⟩]; rfl) (fun l q hl hq ho => by
    rw [eN] at hl; rw [eL] at hq; rw [eo] at ho
    obtain ⟨w, w1, w2⟩ := hG l q hl hq ho
    exact ⟨w, by rw [zo 11 _ (by decide) (by decide) (by decide) (by decide)]; exact w1, eG _ _ _ w2⟩)
  obtain ⟨j1, j2, j3, ⟨e, d, c, k1, k2, k3, k4, k5, k6, k7, k8⟩, j5⟩ := M
  have cA : ∀ t i, sA (mvA s) t i = if (t = 2 ∨ t = 3 ∨ t = 4 ∨ t = 5) ∧ i < 384 then sA (mvA1 s) (t + 4) i else sA (mvA1 s) t i := fun t i => by
    unfold mvA; rw [cpy_A]; simp only [Nat.zero_le, true_and, Nat.zero_add]
  have e384 : cnt (oc s) 0 (nl s * 128 + 0) = cnt (oc s) 0 384 := by
    rcases (show nl s = 2 ∨ nl s = 3 by omega) with h | h
    · rw [h]
      have := cnt_split (f := oc s) 256 128 0
      rw [cnt_none (f := oc s) 128 (0 + 256) fun i h1 h2 => by
        cases e : oc s i
        · rfl
        · have := (hR i e).1; omega] at this
      simp only [Nat.reduceAdd, Nat.reduceMul, Nat.add_zero] at this ⊢
      exact this.symm
    · rw [h]
  rw [eN, eoF, e384] at k5 k6
  rw [nz0_J] at k1 k3 k4
  rw [a2] at k2 k6 k8
  have hoc : ∀ i, oc (mvA s) i = if i < 384 then no (mvA1 s) i else false := fun i => by
    unfold oc; rw [cA]
    by_cases hi : i < 384
    · rw [if_pos ⟨by simp, hi⟩, if_pos hi]; rfl
    · rw [if_neg (by omega), if_neg hi]
      have h2 : sA (mvA1 s) 2 i = sA s 2 i := by
        have := j2 2 i (by decide) (by decide) (by decide) (by decide)
        rw [zo 2 i (by decide) (by decide) (by decide) (by decide)] at this; exact this
      rw [h2]
      cases e : oc s i
      · exact e
      · have := (hR i e).1; omega
  have or' : ∀ i, oc (mvA s) i = true → ∃ l' q' w : Nat, l' < nl s ∧ q' < ln s ∧ oc s (l' * 128 + q') = true ∧ Gd s l' q' w ∧ i = l' * 128 + (q' + w) % ln s ∧ sA (mvA s) 4 i = sA s 4 (l' * 128 + q') ∧ (sA s 11 (l' * 128 + q')).toInt = w := by
    intro i h
    rw [hoc] at h
    by_cases hi : i < 384
    · rw [if_pos hi] at h
      obtain ⟨l', q', w, r1, r2, r3, r4, r5, r6, r7⟩ := j5 i h hi
      rw [eN] at r1; rw [eL] at r2 r6; rw [eo] at r4
      rw [zo 11 _ (by decide) (by decide) (by decide) (by decide)] at r5
      rw [zo 4 _ (by decide) (by decide) (by decide) (by decide)] at r7
      obtain ⟨w', u1, u2⟩ := hG l' q' r1 r2 r4
      have : w' = w := by omega
      subst this
      exact ⟨l', q', w', r1, r2, r4, u2, r6, by rw [cA, if_pos ⟨by simp, hi⟩]; exact r7, u1⟩
    · rw [if_neg hi] at h; cases h
  refine ⟨fun x hx => by unfold mvA; rw [cpy_I]; exact (j1 x hx).trans (a2 x), fun x x1 x2 x3 => by unfold mvA; rw [cpy_J]; exact (j3 x x1 x2 x3).trans nz0_J, fun t i ht => ?_, fun i h => ?_, fun i j hi hj h => ?_, ⟨e, d, c, ?_, ?_, ?_, ?_, ?_, k6, k7, k8⟩, fun i h => ?_⟩
  · rw [cA, if_neg (by omega)]
    have := j2 t i (by omega) (by omega) (by omega) (by omega)
    rw [zo t i (by omega) (by omega) (by omega) (by omega)] at this; exact this
  · obtain ⟨l', q', w, r1, r2, r3, r4, r5, r6, -⟩ := or' i h
    have : (q' + w) % ln s < ln s := Nat.mod_lt _ (by omega)
    omega
  · obtain ⟨l', q', w, r1, r2, r3, r4, r5, r6, r7⟩ := or' i hi
    obtain ⟨l2, q2, w2, t1, t2, t3, t4, t5, t6, t7⟩ := or' j hj
    have := hU _ _ r3 t3 (by rw [← r6, ← t6]; exact h)
    have e2 : l' = l2 ∧ q' = q2 := by omega
    obtain ⟨rfl, rfl⟩ := e2
    have : w = w2 := by omega
    subst this; omega
  · unfold mvA; rw [cpy_J]; exact k1
  · unfold mvA; rw [cpy_I]; exact k2
  · unfold mvA; rw [cpy_J]; exact k3
  · unfold mvA; rw [cpy_J]; exact k4
  · have ee : cnt (oc (mvA s)) 0 384 = cnt (no (mvA1 s)) 0 384 := cnt_congr _ _ fun i _ hi => by rw [hoc, if_pos (by omega)]
    rw [ee]; exact k5
  · obtain ⟨l', q', w, r1, r2, r3, r4, r5, r6, -⟩ := or' i h
    exact ⟨l', q', w, r1, r2, r3, r4, r5, r6⟩
end F

section G
variable {s s' s0 s1 : St} {a b c d e : Int32} {k n m : Nat} {B : Int}
def CI (s : St) (B : Int) : Prop := Rg s (nl s) (ln s) ∧ (sI s 12).toInt = cnt (oc s) 0 384 ∧ (sJ s 13).toInt = (sI s 12).toInt + (sJ s 14).toInt ∧ 0 ≤ (sJ s 14).toInt ∧ (sJ s 13).toInt ≤ B ∧ (∀ i, oc s i = true → 0 ≤ (sA s 4 i).toInt ∧ (sA s 4 i).toInt < (sJ s 13).toInt) ∧ Un s
theorem nl_of (h : sI s' 1 = sI s 1) : nl s' = nl s := by unfold nl; rw [h]
theorem ln_of (h : sI s' 0 = sI s 0) : ln s' = ln s := by unfold ln; rw [h]
theorem oc_of (h : ∀ i, sA s' 2 i = sA s 2 i) : oc s' = oc s := funext fun i => by unfold oc; rw [h]
theorem CI_of (hC : CI s B) (h0 : sI s' 0 = sI s 0) (h1 : sI s' 1 = sI s 1) (h12 : sI s' 12 = sI s 12) (j13 : sJ s' 13 = sJ s 13) (j14 : sJ s' 14 = sJ s 14) (a2 : ∀ i, sA s' 2 i = sA s 2 i) (a4 : ∀ i, sA s' 4 i = sA s 4 i) : CI s' B := by
  unfold CI Rg Un at *; rw [nl_of h1, ln_of h0, oc_of a2, h12, j13, j14]; simp only [a4]; exact hC
theorem cnt384 : cnt (oc s) 0 384 ≤ 384 := cnt_le _ _
theorem CI_pv {i : Int32} (hC : CI s B) (hB : B < 1000000000) (hi : i.toNatClampNeg / 128 < nl s ∧ i.toNatClampNeg % 128 < ln s) (hn : nl s ≤ 3) (ho : sA s 2 i.toNatClampNeg = 0) : CI (pvS s i a b) (B + 1) ∧ sJ (pvS s i a b) 13 = sJ s 13 + 1 ∧ sI (pvS s i a b) 12 = sI s 12 + 1 ∧ (∀ x, x ≠ 13 → sJ (pvS s i a b) x = sJ s x) ∧ ∀ j, oc (pvS s i a b) j = true → j ≠ i.toNatClampNeg → oc s j = true ∧ sA (pvS s i a b) 4 j = sA s 4 j := by
  obtain ⟨c1, c2, c3, c4, c5, c6, c7⟩ := hC
  have cb := cnt384 (s := s)
  generalize hin : i.toNatClampNeg = x at *
  have k0 : ∀ y, y ≠ 12 → sI (pvS s i a b) y = sI s y := fun y hy => by simp only [pvS, sI_uI, sI_uJ, sI_uA, if_neg hy]
  have k12 : sI (pvS s i a b) 12 = sI s 12 + 1 := by simp +decide only [pvS, sI_uI, sI_uJ, sI_uA, ↓reduceIte]
  have k13 : sJ (pvS s i a b) 13 = sJ s 13 + 1 := by simp +decide only [pvS, sJ_uI, sJ_uJ, sJ_uA, ↓reduceIte]
  have kJ : ∀ y, y ≠ 13 → sJ (pvS s i a b) y = sJ s y := fun y hy => by simp only [pvS, sJ_uI, sJ_uJ, sJ_uA, if_neg hy]
  have k2 : ∀ j, oc (pvS s i a b) j = if j = x then true else oc s j := fun j => by
    unfold oc; simp +decide only [pvS, sA_uI, sA_uJ, sA_uA, hin, true_and, false_and, ↓reduceIte]
    by_cases g : j = x
    · rw [if_pos g, if_pos g]; decide
    · rw [if_neg g, if_neg g]
  have k4 : ∀ j, sA (pvS s i a b) 4 j = if j = x then (sJ s 13).toInt32 else sA s 4 j := fun j => by
    simp +decide only [pvS, sA_uI, sA_uJ, sA_uA, hin, true_and, false_and, ↓reduceIte]
  have ox : oc s x = false := by unfold oc; rw [ho]; rfl
  have e12 : (sI s 12 + 1).toInt = (sI s 12).toInt + 1 := ia (by simp only [Int32.reduceToInt]; omega) (by simp only [Int32.reduceToInt]; omega)
  have z1 : (1 : Int64).toInt = 1 := by decide
  have e13 : (sJ s 13 + 1).toInt = (sJ s 13).toInt + 1 := by rw [ja (by omega) (by omega), z1]
  have ev : ((sJ s 13).toInt32).toInt = (sJ s 13).toInt := by
    rw [Int64.toInt_toInt32]; exact Int.bmod_eq_of_le (by omega) (by omega)
  have cs := cnt_set (f := oc s) (g := oc (pvS s i a b)) (x := x) 384 0 (by omega) (by omega) ox (by rw [k2, if_pos rfl]) (fun j hj => by rw [k2, if_neg hj])
  refine ⟨⟨fun j hj => ?_, ?_, ?_, ?_, ?_, fun j hj => ?_, fun j1 j2 h1 h2 h => ?_⟩, k13, k12, kJ, fun j hj hne => ?_⟩
  · rw [nl_of (k0 1 (by decide)), ln_of (k0 0 (by decide))]
    rw [k2] at hj
    by_cases g : j = x
    · rw [g]; exact hi
    · rw [if_neg g] at hj; exact c1 j hj
  · rw [k12, e12, cs, c2]; omega
  · rw [k13, k12, kJ 14 (by decide), e12, e13, c3]; omega
  · rw [kJ 14 (by decide)]; exact c4
  · rw [k13, e13]; omega
  · rw [k2] at hj; rw [k4, k13, e13]
    by_cases g : j = x
    · rw [if_pos g, ev]; omega
    · rw [if_neg g] at hj ⊢; have := c6 j hj; omega
  · rw [k2] at h1 h2; rw [k4, k4] at h
    by_cases g1' : j1 = x
    · by_cases g2' : j2 = x
      · omega
      · rw [if_pos g1', if_neg g2'] at h; rw [if_neg g2'] at h2
        have := (c6 j2 h2).2; rw [← h, ev] at this; omega
    · by_cases g2' : j2 = x
      · rw [if_neg g1', if_pos g2'] at h; rw [if_neg g1'] at h1
        have := (c6 j1 h1).2; rw [h, ev] at this; omega
      · rw [if_neg g1', if_neg g2'] at h; rw [if_neg g1'] at h1; rw [if_neg g2'] at h2; exact c7 j1 j2 h1 h2 h
  · rw [k2, if_neg hne] at hj; exact ⟨hj, by rw [k4, if_neg hne]⟩
theorem CI_mg (hE : Ev s) (hC : CI s B) (hB : B < 1000000000) : ∃ m : Nat, m ≤ 1 ∧ CI (mgS s) (B + 1) ∧ sJ (mgS s) 13 = sJ s 13 + Int64.ofNat m ∧ sJ (mgS s) 19 = sJ s 19 + Int64.ofNat m ∧ sI (mgS s) 12 = sI s 12 + Int32.ofNat m ∧ sI (mgS s) 22 = sI s 22 - Int32.ofNat m ∧ (m = 1 → 1 ≤ (sI s 22).toInt) ∧ (∀ x, x ≠ 13 → x ≠ 19 → sJ (mgS s) x = sJ s x) ∧ ∀ j, oc (mgS s) j = true → ¬ ((j % 128 : Nat) : Int) = (sI s 7).toInt → oc s j = true ∧ sA (mgS s) 4 j = sA s 4 j := by
  have hb := Ev_nl hE
  have hE1 := hE.1
  by_cases g : mgc s
  · have e22 : 1 ≤ (sI s 22).toInt := by have := g.2.2.1; rw [eq32] at this; simp only [Int32.reduceToInt] at this; have := hE.2.2.2.2.1; omega
    have g7 := g.1; have g8 := g.2.1
    rw [lt32] at g7 g8; simp only [Int32.reduceToInt] at g7
    have hix : (sI s 7).toNatClampNeg = (sI s 7).toInt.toNat := cln
    have C1 : CI (mg1 s) B := CI_of hC (by simp +decide only [mg1, sI_uI, ↓reduceIte]) (by simp +decide only [mg1, sI_uI, ↓reduceIte]) (by simp +decide only [mg1, sI_uI, ↓reduceIte]) (by simp only [mg1, sJ_uI]) (by simp only [mg1, sJ_uI]) (fun i => by simp only [mg1, sA_uI]) (fun i => by simp only [mg1, sA_uI])
    have n1 : nl (mg1 s) = nl s := nl_of (by simp +decide only [mg1, sI_uI, ↓reduceIte])
    have l1 : ln (mg1 s) = ln s := ln_of (by simp +decide only [mg1, sI_uI, ↓reduceIte])
    have l0 : (ln s : Int) = (sI s 0).toInt := by unfold ln; omega
    obtain ⟨p1, p2, p3, p4, p5⟩ := CI_pv (a := 0) (b := sA s 1 (sI s 21).toNatClampNeg) (i := sI s 7) C1 hB (by rw [n1, l1]; omega) (by omega) (by simp only [mg1, sA_uI]; exact g.2.2.2.1)
    have eM : pvS (mg1 s) (sI s 7) 0 (sA s 1 (sI s 21).toNatClampNeg) = mg2 s := rfl
    rw [eM] at p1 p2 p3 p4 p5
    have eS : mgS s = uJ (mg2 s) 19 (sJ s 19 + 1) := if_pos g
    have i22 : sI (mg2 s) 22 = sI s 22 - 1 := by simp +decide only [mg2, pvS, mg1, sI_uI, sI_uJ, sI_uA, ↓reduceIte]
    have i12 : sI (mg1 s) 12 = sI s 12 := by simp +decide only [mg1, sI_uI, ↓reduceIte]
    have j13 : ∀ x, sJ (mg1 s) x = sJ s x := fun x => by simp only [mg1, sJ_uI]
    refine ⟨1, Nat.le_refl _, ?_, ?_, ?_, ?_, ?_, fun _ => e22, fun x x1 x2 => ?_, fun j hj hne => ?_⟩
    · rw [eS]; exact CI_of p1 sI_uJ sI_uJ sI_uJ (by rw [sJ_uJ, if_neg (by decide)]) (by rw [sJ_uJ, if_neg (by decide)]) (fun i => sA_uJ) (fun i => sA_uJ)
    · rw [eS, sJ_uJ, if_neg (by decide), p2, j13]; rfl
    · rw [eS, sJ_uJ, if_pos rfl]; rfl
    · rw [eS, sI_uJ, p3, i12]; rfl
    · rw [eS, sI_uJ, i22]; rfl
    · rw [eS, sJ_uJ, if_neg x2, p4 x x1, j13]
    · have hoj : oc (mg2 s) j = true := by rw [eS] at hj; unfold oc at hj ⊢; rw [sA_uJ] at hj; exact hj
      obtain ⟨r1, r2⟩ := p5 j hoj (by omega)
      refine ⟨?_, ?_⟩
      · unfold oc at r1 ⊢; simp only [mg1, sA_uI] at r1; exact r1
      · rw [eS, sA_uJ, r2]; simp only [mg1, sA_uI]
  · have eS : mgS s = s := if_neg g
    rw [eS]
    obtain ⟨c1, c2, c3, c4, c5, c6, c7⟩ := hC
    exact ⟨0, by omega, ⟨c1, c2, c3, c4, by omega, c6, c7⟩, (ofn64z _).symm, (ofn64z _).symm, (Int32.add_zero _).symm, (Int32.sub_zero _).symm, by omega, fun _ _ _ => rfl, fun j hj _ => ⟨hj, rfl⟩⟩
def OS (s v : St) (B : Int) : Prop := ∃ e m d c : Nat, m ≤ 1 ∧ sJ v 11 = sJ s 11 + 1 ∧ sJ v 13 = sJ s 13 + Int64.ofNat m ∧ sJ v 19 = sJ s 19 + Int64.ofNat m ∧ sI v 22 = sI s 22 - Int32.ofNat m ∧ (m = 1 → 1 ≤ (sI s 22).toInt) ∧ sJ v 14 = sJ s 14 + Int64.ofNat e ∧ e ≤ cnt (oc s) 0 384 ∧ sI v 12 = sI s 12 - Int32.ofNat e + Int32.ofNat m ∧ sJ v 16 = sJ s 16 + Int64.ofNat d ∧ d ≤ (sI s 2).toInt.toNat * cnt (oc s) 0 384 ∧ sJ v 18 = sJ s 18 + Int64.ofNat c ∧ c ≤ d ∧ (¬ isR s = 0 → c = 0) ∧ sJ v 15 = sJ s 15 + (sI v 12).toInt64 ∧ CI v (B + 1) ∧
  (¬ isR s = 0 → ¬ (sI s 7).toInt = (sI s 4).toInt → ∀ i, oc v i = true → ((i % 128 : Nat) : Int) = (sI s 4).toInt → ∃ j, oc s j = true ∧ j % 128 = i % 128 ∧ sA s 4 j = sA v 4 i)
set_option maxHeartbeats 1000000 in
theorem os_C (hE : Ev s) (hC : CI s B) (hB : B < 1000000000) : OS s (osS s) B := by
  obtain ⟨c1, c2, c3, c4, c5, c6, c7⟩ := hC
  have cb := cnt384 (s := s)
  have z0I : ∀ x, x ≠ 10 → sI (os0 s) x = sI s x := fun x hx => by unfold os0; rw [sI_uI, if_neg hx]
  have z010 : sI (os0 s) 10 = isR s := by unfold os0; rw [sI_uI, if_pos rfl]
  have z0J : ∀ x, sJ (os0 s) x = sJ s x := fun x => by unfold os0; rw [sJ_uI]
  have z0A : ∀ t i, sA (os0 s) t i = sA s t i := fun t i => by unfold os0; rw [sA_uI]
  have o0 : oc (os0 s) = oc s := oc_of fun i => z0A 2 i
  have n0 : nl (os0 s) = nl s := nl_of (z0I 1 (by decide))
  have l0 : ln (os0 s) = ln s := ln_of (z0I 0 (by decide))
  obtain ⟨p1, p2, p3, p4, p5, p6, p7, p8⟩ := P2_ap (s := os0 s) (os0_E hE) (by unfold Rg; rw [n0, l0, o0]; exact c1) (by unfold Un; rw [o0]; simp only [z0A]; exact c7)
  have e1 : clS (os0 s) = os1 s := rfl
  rw [e1] at p1 p2 p3 p4 p5 p6 p7 p8
  rw [n0, l0] at p5; rw [o0] at p6
  have n1 : nl (os1 s) = nl s := (nl_of (p2 1)).trans n0
  have l1 : ln (os1 s) = ln s := (ln_of (p2 0)).trans l0
  obtain ⟨q1, q2, q3, q4⟩ := P3_sp (s := os1 s) (os1_E hE)
  have e2 : csS (os1 s) = os2 s := rfl
  rw [e2] at q1 q2 q3 q4
  have o2 : oc (os2 s) = oc (os1 s) := oc_of fun i => q1 2 i (by decide)
  have n2 : nl (os2 s) = nl s := (nl_of (q2 1 (by decide))).trans n1
  have l2 : ln (os2 s) = ln s := (ln_of (q2 0 (by decide))).trans l1
  have eGd : ∀ l q w, Gd (os1 s) l q w → Gd (os2 s) l q w := fun l q w h => by
    unfold Gd at *; rw [o2, l2, q2 2 (by decide), q2 10 (by decide), q2 4 (by decide)]; rw [l1] at h; exact h
  obtain ⟨r1, r2, r3, r4, r5, ⟨e, d, c, k1, k2, k3, k4, k5, k6, k7, k8⟩, r7⟩ := P5_mv (s := os2 s) (os2_E hE) (by unfold Rg; rw [n2, l2, o2]; exact p5) (by unfold Un; rw [o2]; simp only [q1 4 _ (by decide)]; exact p8) (fun l q hl hq ho => by
    rw [n2] at hl; rw [l2] at hq; rw [o2] at ho
    obtain ⟨w, w1, w2⟩ := q4 l q (by rw [n1]; exact hl) (by rw [l1]; exact hq) (by rw [n1]; exact Or.inl hl) ho
    exact ⟨w, w1, eGd _ _ _ w2⟩)
  have e3 : mvA (os2 s) = os3 s := rfl
  rw [e3] at r1 r2 r3 r4 r5 k1 k2 k3 k4 k5 r7
  rw [o2, p6] at k5 k6
  have J2 : ∀ x, x ≠ 17 → sJ (os2 s) x = sJ s x := fun x hx => (q3 x).trans ((p3 x hx).trans (z0J x))
  have I2 : ∀ x, x ≠ 3 → x ≠ 10 → sI (os2 s) x = sI s x := fun x h3 h10 => (q2 x h3).trans ((p2 x).trans (z0I x h10))
  have I210 : sI (os2 s) 10 = isR s := (q2 10 (by decide)).trans ((p2 10).trans z010)
  rw [J2 14 (by decide)] at k1; rw [I2 12 (by decide) (by decide)] at k2; rw [J2 16 (by decide)] at k3; rw [J2 18 (by decide)] at k4
  rw [I2 2 (by decide) (by decide)] at k6; rw [I210] at k8
  have J3 : ∀ x, x ≠ 14 → x ≠ 16 → x ≠ 18 → x ≠ 17 → sJ (os3 s) x = sJ s x := fun x x1 x2 x3 x4 => (r2 x x1 x2 x3).trans (J2 x x4)
  have I3 : ∀ x, x ≠ 12 → x ≠ 3 → x ≠ 10 → sI (os3 s) x = sI s x := fun x x1 x2 x3 => (r1 x x1).trans (I2 x x2 x3)
  have n3 : nl (os3 s) = nl s := nl_of (I3 1 (by decide) (by decide) (by decide))
  have l3 : ln (os3 s) = ln s := ln_of (I3 0 (by decide) (by decide) (by decide))
  have he64 : (Int64.ofNat e).toInt = e := Int64.toInt_ofNat_of_lt (by omega)
  have he32 : (Int32.ofNat e).toInt = e := Int32.toInt_ofNat_of_lt (by omega)
  have m14 : (sJ (os3 s) 14).toInt = (sJ s 14).toInt + e := by rw [k1, ja (by rw [he64]; omega) (by rw [he64]; omega), he64]
  have m12 : (sI (os3 s) 12).toInt = (sI s 12).toInt - e := by rw [k2, isb (by rw [he32]; omega) (by rw [he32]; omega), he32]
  have org : ∀ i, oc (os3 s) i = true → ∃ j, oc s j = true ∧ sA s 4 j = sA (os3 s) 4 i ∧ ((¬ isR s = 0) → ((i % 128 : Nat) : Int) = (sI s 4).toInt → j % 128 = i % 128) := by
    intro i h
    obtain ⟨l', q', w, u1, u2, u3, u4, u5, u6⟩ := r7 i h
    rw [l2] at u2 u5; rw [o2] at u3
    obtain ⟨j, v1, v2, v3⟩ := p7 _ u3
    rw [o0] at v1; rw [z0A] at v3
    refine ⟨j, v1, by rw [u6, v3, q1 4 _ (by decide)], fun hr hs => ?_⟩
    have hm : (q' + w) % ln s < ln s := Nat.mod_lt _ (by omega)
    have hL := (Ev_nl hE)
    by_cases hw : w = 0
    · subst hw; rw [Nat.add_zero, Nat.mod_eq_of_lt u2] at u5; rw [v2, u5]
    · exfalso
      rcases (u4.2 w (by omega) (Nat.le_refl _)).2 with z | z
      · rw [I210] at z; exact hr z
      · rw [l2, I2 4 (by decide) (by decide)] at z; apply z; rw [← hs, u5]
        have : (l' * 128 + (q' + w) % ln s) % 128 = (q' + w) % ln s := by omega
        rw [this]
  have C3 : CI (os3 s) B := by
    refine ⟨by rw [n3, l3]; rw [n2, l2] at r4; exact r4, by rw [m12]; omega, by rw [J3 13 (by decide) (by decide) (by decide) (by decide), m12, m14, c3]; omega, by omega, by rw [J3 13 (by decide) (by decide) (by decide) (by decide)]; exact c5, fun i h => ?_, r5⟩
    obtain ⟨j, j1, j2, -⟩ := org i h
    rw [J3 13 (by decide) (by decide) (by decide) (by decide), ← j2]; exact c6 j j1
  obtain ⟨m, b1, b2, b3, b4, b5, b6, b7, b8, b9⟩ := CI_mg (s := os3 s) (os3_E hE) C3 hB
  have e4 : mgS (os3 s) = os4 s := rfl
  rw [e4] at b2 b3 b4 b5 b6 b8 b9
  obtain ⟨s1', s2, s3, s4⟩ := sm_kp (s := os4 s) (os4_E hE)
  have e5 : smS (os4 s) = os5 s := rfl
  rw [e5] at s2 s3 s4
  have J5 : ∀ x, x ≠ 15 → x ≠ 11 → sJ (osS s) x = sJ (os4 s) x := fun x x1 x2 => by unfold osS; rw [sJ_uJ, if_neg x2, s4, if_neg x1]
  have I5 : ∀ x, sI (osS s) x = sI (os4 s) x := fun x => by unfold osS; rw [sI_uJ, s2]
  have A5 : ∀ t i, sA (osS s) t i = sA (os4 s) t i := fun t i => by unfold osS; rw [sA_uJ, s3]
  refine ⟨e, m, d, c, b1, ?_, ?_, ?_, ?_, fun hm => ?_, ?_, by omega, ?_, ?_, k6, ?_, k7, k8, ?_, CI_of b2 (I5 0) (I5 1) (I5 12) (J5 13 (by decide) (by decide)) (J5 14 (by decide) (by decide)) (A5 2) (A5 4), fun hr hne i hi hs => ?_⟩
  · unfold osS; rw [sJ_uJ, if_pos rfl, s4, if_neg (by decide), b8 11 (by decide) (by decide), J3 11 (by decide) (by decide) (by decide) (by decide)]
  · rw [J5 13 (by decide) (by decide), b3, J3 13 (by decide) (by decide) (by decide) (by decide)]
  · rw [J5 19 (by decide) (by decide), b4, J3 19 (by decide) (by decide) (by decide) (by decide)]
  · rw [I5, b6, I3 22 (by decide) (by decide) (by decide)]
  · have := b7 hm; rw [I3 22 (by decide) (by decide) (by decide)] at this; exact this
  · rw [J5 14 (by decide) (by decide), b8 14 (by decide) (by decide), k1]
  · rw [I5, b5, k2]
  · rw [J5 16 (by decide) (by decide), b8 16 (by decide) (by decide), k3]
  · rw [J5 18 (by decide) (by decide), b8 18 (by decide) (by decide), k4]
  · rw [I5]; unfold osS; rw [sJ_uJ, if_neg (by decide), s4, if_pos rfl, b8 15 (by decide) (by decide), J3 15 (by decide) (by decide) (by decide) (by decide)]
  · have ho : oc (os4 s) i = true := by unfold oc at hi ⊢; rw [A5] at hi; exact hi
    obtain ⟨t1, t2⟩ := b9 i ho (fun z => by
      rw [I3 7 (by decide) (by decide) (by decide)] at z
      exact hne (by rw [← z]; exact hs))
    obtain ⟨j, j1, j2, j3⟩ := org i t1
    exact ⟨j, j1, j3 hr hs, by rw [j2, ← t2, A5]⟩
end G

section Hh
variable {s s' s0 s1 : St} {a b c d e : Int32} {k n m : Nat} {B B' : Int}
theorem CI.le (h : CI s B) (hB : B ≤ B') : CI s B' := ⟨h.1, h.2.1, h.2.2.1, h.2.2.2.1, by have := h.2.2.2.2.1; omega, h.2.2.2.2.2⟩
theorem CI_cf {x : Int32} (h : CI s B) : CI (cfS s x a b c) B := CI_of h (cf_I (by decide)) (cf_I (by decide)) (cf_I (by decide)) cf_J cf_J (fun i => cf_A (by decide)) (fun i => cf_A (by decide))
theorem CI_qu (h : CI s B) : CI (quS s a) B := by
  unfold quS; split
  · exact CI_of h (by simp +decide only [sI_uI, sI_uA, ↓reduceIte]) (by simp +decide only [sI_uI, sI_uA, ↓reduceIte]) (by simp +decide only [sI_uI, sI_uA, ↓reduceIte]) (by simp only [sJ_uI, sJ_uA]) (by simp only [sJ_uI, sJ_uA]) (fun i => by simp +decide only [sA_uI, sA_uA, false_and, ↓reduceIte]) (fun i => by simp +decide only [sA_uI, sA_uA, false_and, ↓reduceIte])
  · exact h
theorem vdc_n (hE : Ev s) (h : vdc s a b) : (a * 128 + b).toNatClampNeg = a.toInt.toNat * 128 + b.toInt.toNat ∧ a.toInt.toNat < nl s ∧ b.toInt.toNat < ln s := by
  obtain ⟨h1, h2, h3⟩ := vdc_ix hE h
  have := hE.1; have := hE.2.1
  have e := (ixr (a := a) (b := b) (by omega) (by omega)).1
  refine ⟨by rw [cln, e]; omega, by unfold nl; omega, by unfold ln; omega⟩
theorem CI_pl (hE : Ev s) (h : CI s B) (hB : B < 1000000000) : CI (plS s a b c d) (B + 1) := by
  unfold plS; split
  · rename_i g
    obtain ⟨e1, e2, e3⟩ := vdc_n hE g.1
    have hb := Ev_nl hE
    exact (CI_pv h hB (by rw [e1]; omega) (by omega) g.2.2).1
  · exact h.le (by omega)
theorem CI_osF : ∀ (m : Nat) (s : St) (B : Int), Ev s → CI s B → B + m < 1000000000 → CI (osF m s) (B + m)
  | 0, s, B, hE, h, hB => h.le (by omega)
  | m + 1, s, B, hE, h, hB => by
    obtain ⟨e, m', d, c, -, -, -, -, -, -, -, -, -, -, -, -, -, -, -, h', -⟩ := os_C hE h (by omega)
    exact (CI_osF m (osS s) (B + 1) (Ev_os hE) h' (by omega)).le (by omega)
theorem CI_st (hE : Ev s) (h : CI s B) (hB : B + 16 < 1000000000) : CI (stS s a) (B + 16) := by
  unfold stS; split
  · rename_i g
    have g1 := g.1; have g2 := g.2; rw [lt32] at g1 g2; simp only [Int32.reduceToInt] at g1 g2
    exact (CI_osF _ s B hE h (by omega)).le (by omega)
  · exact h.le (by omega)
theorem CI_ini : CI (ini0 a b c d) 0 := by
  have j : sJ (ini0 a b c d) 13 = 0 ∧ sJ (ini0 a b c d) 14 = 0 ∧ sI (ini0 a b c d) 12 = 0 := by simp +decide only [ini0, sI_uI, sI_uA, sJ_uI, sJ_uA, sI_z0, sJ_z0, and_true, ↓reduceIte]
  obtain ⟨j1, j2, j3⟩ := j
  have A : ∀ i, oc (ini0 a b c d) i = false := fun i => by unfold oc; simp +decide only [ini0, sA_uI, sA_uA, sA_z0, false_and, not_true_eq_false, ↓reduceIte]
  have z : (0 : Int64).toInt = 0 := by decide
  refine ⟨fun i h => (by rw [A] at h; cases h), ?_, ?_, ?_, ?_, fun i h => (by rw [A] at h; cases h), fun i j h => (by rw [A] at h; cases h)⟩
  · rw [j3, cnt_none _ _ fun i _ _ => A i]; rfl
  · rw [j1, j2, j3, z]; rfl
  · rw [j2, z]; omega
  · rw [j1, z]; omega
theorem cell_sp (hE : Ev s) (hC : CI s B) (hB : B < 1000000000) : (cSp s a b = -1 ∧ cId s a b = -1 ∧ ¬ (vdc s a b ∧ oc s (a.toInt.toNat * 128 + b.toInt.toNat) = true)) ∨ (¬ cSp s a b < 0 ∧ (cSp s a b).toInt ≤ (sI s 2).toInt ∧ ¬ cId s a b < 0 ∧ (cId s a b).toInt64 < sJ s 13 ∧ vdc s a b ∧ oc s (a.toInt.toNat * 128 + b.toInt.toNat) = true ∧ cId s a b = sA s 4 (a.toInt.toNat * 128 + b.toInt.toNat) ∧ cSp s a b = sA s 3 (a.toInt.toNat * 128 + b.toInt.toNat)) := by
  by_cases h : vdc s a b ∧ ¬ sA s 2 (a * 128 + b).toNatClampNeg = 0
  · right
    obtain ⟨e1, e2, e3⟩ := vdc_n hE h.1
    have ho : oc s (a.toInt.toNat * 128 + b.toInt.toNat) = true := by unfold oc; rw [← e1]; exact decide_eq_true h.2
    have hv : vr s (sA s 3 (a * 128 + b).toNatClampNeg) := Evv hE (by simp)
    have hid := hC.2.2.2.2.2.1 _ ho
    rw [← e1] at hid
    unfold vr at hv
    have k1 : cSp s a b = sA s 3 (a * 128 + b).toNatClampNeg := if_pos h
    have k2 : cId s a b = sA s 4 (a * 128 + b).toNatClampNeg := if_pos h
    refine ⟨?_, by rw [k1]; exact hv.2, ?_, ?_, h.1, ho, by rw [k2, e1], by rw [k1, e1]⟩
    · rw [k1, lt32]; simp only [Int32.reduceToInt]; omega
    · rw [k2, lt32]; simp only [Int32.reduceToInt]; omega
    · rw [k2, lt64, Int32.toInt_toInt64]; exact hid.2
  · left
    refine ⟨if_neg h, if_neg h, fun g => h ⟨g.1, ?_⟩⟩
    obtain ⟨e1, -, -⟩ := vdc_n hE g.1
    have := of_decide_eq_true g.2
    rw [e1]; exact this
end Hh

end Jvm.JX.Pj
namespace Jvm.JX.Lw
open Jvm Jvm.ClassFile Sem Op Lib Jvm.JX Jvm.JX.Pj
def lr0 : List Row := [(0, .new 7, 3, 38), (3, .dup, 1, 0), (4, .bipush 10, 2, 0), (6, .iconst 3, 1, 0), (7, .iconst 5, 1, 0), (8, .bipush 7, 2, 0), (10, .invokespecial 9, 3, 1), (13, .astore_n 1, 1, 0), (14, .iconst 0, 1, 0), (15, .istore_n 2, 1, 0), (16, .iload_n 2, 1, 0), (17, .iconst 5, 1, 0), (18, .iadd, 1, 0), (19, .aload_n 0, 1, 0), (20, .arraylength, 1, 0), (21, .if_icmp .gt 131, 3, 0), (24, .aload_n 0, 1, 0), (25, .iload_n 2, 1, 0), (26, .iaload, 1, 0), (27, .iconst 3, 1, 0), (28, .iand, 1, 0), (29, .istore_n 3, 1, 0), (30, .aload_n 0, 1, 0), (31, .iload_n 2, 1, 0), (32, .iconst 1, 1, 0), (33, .iadd, 1, 0), (34, .iaload, 1, 0), (35, .istore 4, 2, 0), (37, .aload_n 0, 1, 0), (38, .iload_n 2, 1, 0), (39, .iconst 2, 1, 0), (40, .iadd, 1, 0), (41, .iaload, 1, 0), (42, .istore 5, 2, 0), (44, .aload_n 0, 1, 0), (45, .iload_n 2, 1, 0), (46, .iconst 3, 1, 0), (47, .iadd, 1, 0), (48, .iaload, 1, 0), (49, .istore 6, 2, 0), (51, .aload_n 0, 1, 0), (52, .iload_n 2, 1, 0), (53, .iconst 4, 1, 0), (54, .iadd, 1, 0), (55, .iaload, 1, 0), (56, .istore 7, 2, 0), (58, .iload_n 3, 1, 0), (59, .ifCond .ne 19, 3, 0), (62, .aload_n 1, 1, 0), (63, .iload 4, 2, 0), (65, .iload 5, 2, 0), (67, .iload 6, 2, 0), (69, .iload 7, 2, 0), (71, .invokevirtual 12, 3, 2), (74, .pop, 1, 0), (75, .goto 62, 3, 0), (78, .iload_n 3, 1, 0), (79, .iconst 1, 1, 0), (80, .if_icmp .ne 27, 3, 0), (83, .aload_n 1, 1, 0), (84, .iload 4, 2, 0), (86, .iload 5, 2, 0), (88, .iload 6, 2, 0), (90, .iload 7, 2, 0), (92, .ifCond .eq 7, 3, 0), (95, .iconst 1, 1, 0), (96, .goto 4, 3, 0), (99, .iconst 0, 1, 0), (100, .invokevirtual 16, 3, 5), (103, .pop, 1, 0), (104, .goto 33, 3, 0), (107, .iload_n 3, 1, 0), (108, .iconst 2, 1, 0), (109, .if_icmp .ne 21, 3, 0), (112, .aload_n 1, 1, 0), (113, .iload 4, 2, 0), (115, .ifCond .eq 7, 3, 0), (118, .iconst 1, 1, 0), (119, .goto 4, 3, 0), (122, .iconst 0, 1, 0), (123, .invokevirtual 20, 3, 7), (126, .pop, 1, 0), (127, .goto 10, 3, 0), (130, .aload_n 1, 1, 0), (131, .iload 4, 2, 0), (133, .invokevirtual 24, 3, 8), (136, .pop, 1, 0), (137, .aload_n 1, 1, 0), (138, .invokestatic 28, 3, 103), (141, .ifCond .ne 5, 3, 0), (144, .iconst 0, 1, 0), (145, .ireturn, 1, 0), (146, .iinc 2 5, 3, 0), (149, .goto (-133), 3, 0), (152, .iconst 1, 1, 0), (153, .ireturn, 1, 0)]
def lr3 : List Row := [(0, .aload_n 0, 1, 0), (1, .iconst 2, 1, 0), (2, .invokevirtual 34, 3, 34), (5, .lstore_n 1, 1, 0), (6, .aload_n 0, 1, 0), (7, .iconst 1, 1, 0), (8, .invokevirtual 34, 3, 34), (11, .lstore_n 3, 1, 0), (12, .aload_n 0, 1, 0), (13, .iconst 3, 1, 0), (14, .invokevirtual 34, 3, 34), (17, .lstore 5, 2, 0), (19, .aload_n 0, 1, 0), (20, .iconst 4, 1, 0), (21, .invokevirtual 34, 3, 34), (24, .lstore 7, 2, 0), (26, .lload_n 1, 1, 0), (27, .lload_n 3, 1, 0), (28, .lload 5, 2, 0), (30, .ladd, 1, 0), (31, .lcmp, 1, 0), (32, .ifCond .eq 5, 3, 0), (35, .iconst 0, 1, 0), (36, .ireturn, 1, 0), (37, .lload 7, 2, 0), (39, .lconst 0, 1, 0), (40, .lcmp, 1, 0), (41, .ifCond .lt 12, 3, 0), (44, .lload 7, 2, 0), (46, .ldc2_w 38, 3, 16), (49, .lcmp, 1, 0), (50, .ifCond .le 5, 3, 0), (53, .iconst 0, 1, 0), (54, .ireturn, 1, 0), (55, .lconst 0, 1, 0), (56, .lstore 9, 2, 0), (58, .iconst 0, 1, 0), (59, .istore 11, 2, 0), (61, .iload 11, 2, 0), (63, .iconst 3, 1, 0), (64, .if_icmp .ge 79, 3, 0), (67, .iconst 0, 1, 0), (68, .istore 12, 2, 0), (70, .iload 12, 2, 0), (72, .bipush 10, 2, 0), (74, .if_icmp .ge 63, 3, 0), (77, .aload_n 0, 1, 0), (78, .iload 11, 2, 0), (80, .iload 12, 2, 0), (82, .invokevirtual 40, 3, 30), (85, .istore 13, 2, 0), (87, .iload 13, 2, 0), (89, .ifCond .lt 42, 3, 0), (92, .lload 9, 2, 0), (94, .lconst 1, 1, 0), (95, .ladd, 1, 0), (96, .lstore 9, 2, 0), (98, .iload 13, 2, 0), (100, .iconst 5, 1, 0), (101, .if_icmp .le 5, 3, 0), (104, .iconst 0, 1, 0), (105, .ireturn, 1, 0), (106, .aload_n 0, 1, 0), (107, .iload 11, 2, 0), (109, .iload 12, 2, 0), (111, .invokevirtual 44, 3, 31), (114, .istore 14, 2, 0), (116, .iload 14, 2, 0), (118, .ifCond .lt 11, 3, 0), (121, .iload 14, 2, 0), (123, .i2l, 1, 0), (124, .lload_n 1, 1, 0), (125, .lcmp, 1, 0), (126, .ifCond .lt 5, 3, 0), (129, .iconst 0, 1, 0), (130, .ireturn, 1, 0), (131, .iinc 12 1, 3, 0), (134, .goto (-64), 3, 0), (137, .iinc 11 1, 3, 0), (140, .goto (-79), 3, 0), (143, .lload 9, 2, 0), (145, .lload_n 3, 1, 0), (146, .lcmp, 1, 0), (147, .ifCond .ne 7, 3, 0), (150, .iconst 1, 1, 0), (151, .goto 4, 3, 0), (154, .iconst 0, 1, 0), (155, .ireturn, 1, 0)]
def lrows : List (List Row) := [lr0, [], [], lr3]
def linfo : List MInfo := [(1, 8, 9, some .boolean, { frames := 10, cells := 48, slots := 7936, locals := 224 }), (0, 0, 9, none, {}), (0, 0, 9, none, {}), (1, 15, 0, some .boolean, { frames := 2, cells := 0, slots := 0, locals := 29 })]
def lw : LW := (fun j pc => (lrows.getD j []).lookup pc, fun j => linfo.getD j (0, 0, 9, none, {}))
section LPc
variable {L : List Slot} {S : List Value} {k n : Nat} {H : AH} {Q : Option Value → AH → Prop}
theorem c100 {x0 : Nat} : Cl (pj lw) 100 [.ref x0] H Q ↔ W (pj lw) 100 0 [.val (.ref x0), .unset, .unset, .unset, .unset, .unset, .unset, .unset] [] 0 0 H Q := cl_unf rfl
theorem w100_0 : W (pj lw) 100 0 L S k n H Q ↔ ((k + 1 ≤ 48 ∧ n + 38 ≤ 7936) ∧ W (pj lw) 100 3 L (.ref H.1 :: S) (k + 1) (n + 38) (mkO (pj lw) H) Q) := W_new' (rfl : (pj lw).1 100 0 = some (.new 7, 3, 38)) (by decide)
theorem w100_3 {x : Nat} : W (pj lw) 100 3 L (.ref x :: S) k n H Q ↔ W (pj lw) 100 4 L (.ref x :: .ref x :: S) k n H Q := W_s (rfl : (pj lw).1 100 3 = some (.dup, 1, 0)) rfl rfl rfl
theorem w100_4 : W (pj lw) 100 4 L S k n H Q ↔ W (pj lw) 100 6 L (.int 10 :: S) k n H Q := W_s (rfl : (pj lw).1 100 4 = some (.bipush 10, 2, 0)) rfl rfl rfl
theorem w100_6 : W (pj lw) 100 6 L S k n H Q ↔ W (pj lw) 100 7 L (.int 3 :: S) k n H Q := W_s (rfl : (pj lw).1 100 6 = some (.iconst 3, 1, 0)) rfl rfl rfl
theorem w100_7 : W (pj lw) 100 7 L S k n H Q ↔ W (pj lw) 100 8 L (.int 5 :: S) k n H Q := W_s (rfl : (pj lw).1 100 7 = some (.iconst 5, 1, 0)) rfl rfl rfl
theorem w100_8 : W (pj lw) 100 8 L S k n H Q ↔ W (pj lw) 100 10 L (.int 7 :: S) k n H Q := W_s (rfl : (pj lw).1 100 8 = some (.bipush 7, 2, 0)) rfl rfl rfl
theorem w100_10 {a : Nat} {x0 : Int32} {x1 : Int32} {x2 : Int32} {x3 : Int32} : W (pj lw) 100 10 L (.int x3 :: .int x2 :: .int x1 :: .int x0 :: .ref a :: S) k n H Q ↔ ((isO H a = true ∧ cs S + (6 + 11) + 16 ≤ 224 ∧ k + 16 ≤ 48 ∧ n + 3876 ≤ 7936) ∧ Cl (pj lw) 1 [.ref a, .int x0, .int x1, .int x2, .int x3] H (fun v H => W (pj lw) 100 13 L (v.toList ++ S) (k + 16) (n + 3876) H Q)) := W_init (as := [.int x0, .int x1, .int x2, .int x3]) (rfl : (pj lw).1 100 10 = some (.invokespecial 9, 3, 1)) rfl rfl rfl (Nat.le_of_ble_eq_true rfl) (Nat.le_of_ble_eq_true rfl) (fun h => absurd (show (16 : Nat) = 0 from h.1) (by decide))
theorem w100_13 {x : Nat} {l0 : Slot} : W (pj lw) 100 13 (l0 :: .unset :: L) (.ref x :: S) k n H Q ↔ W (pj lw) 100 14 (l0 :: .val (.ref x) :: L) S k n H Q := W_astn (rfl : (pj lw).1 100 13 = some (.astore_n 1, 1, 0)) rfl rfl
theorem w100_14 : W (pj lw) 100 14 L S k n H Q ↔ W (pj lw) 100 15 L (.int 0 :: S) k n H Q := W_s (rfl : (pj lw).1 100 14 = some (.iconst 0, 1, 0)) rfl rfl rfl
theorem w100_15 {x : Int32} {l0 l1 : Slot} : W (pj lw) 100 15 (l0 :: l1 :: .unset :: L) (.int x :: S) k n H Q ↔ W (pj lw) 100 16 (l0 :: l1 :: .val (.int x) :: L) S k n H Q := W_istn (rfl : (pj lw).1 100 15 = some (.istore_n 2, 1, 0)) rfl rfl
theorem w100_16 {x : Int32} {l0 l1 : Slot} : W (pj lw) 100 16 (l0 :: l1 :: .val (.int x) :: L) S k n H Q ↔ W (pj lw) 100 17 (l0 :: l1 :: .val (.int x) :: L) (.int x :: S) k n H Q := W_s (rfl : (pj lw).1 100 16 = some (.iload_n 2, 1, 0)) rfl rfl rfl
theorem w100_17 : W (pj lw) 100 17 L S k n H Q ↔ W (pj lw) 100 18 L (.int 5 :: S) k n H Q := W_s (rfl : (pj lw).1 100 17 = some (.iconst 5, 1, 0)) rfl rfl rfl
theorem w100_18 {x y : Int32} : W (pj lw) 100 18 L (.int y :: .int x :: S) k n H Q ↔ W (pj lw) 100 19 L (.int (x + y) :: S) k n H Q := W_s (rfl : (pj lw).1 100 18 = some (.iadd, 1, 0)) rfl rfl rfl
theorem w100_19 {x : Nat} : W (pj lw) 100 19 (.val (.ref x) :: L) S k n H Q ↔ W (pj lw) 100 20 (.val (.ref x) :: L) (.ref x :: S) k n H Q := W_s (rfl : (pj lw).1 100 19 = some (.aload_n 0, 1, 0)) rfl rfl rfl
theorem w100_20 {a : Nat} : W (pj lw) 100 20 L (.ref a :: S) k n H Q ↔ (isA H a = true ∧ W (pj lw) 100 21 L (.int (alen H a).toInt32 :: S) k n H Q) := W_alen (rfl : (pj lw).1 100 20 = some (.arraylength, 1, 0))
theorem w100_21 {x y : Int32} : W (pj lw) 100 21 L (.int y :: .int x :: S) k n H Q ↔ (if y < x then W (pj lw) 100 152 L S k n H Q else W (pj lw) 100 24 L S k n H Q) := W_icmp_gt (rfl : (pj lw).1 100 21 = some (.if_icmp .gt 131, 3, 0)) rfl
theorem w100_24 {x : Nat} : W (pj lw) 100 24 (.val (.ref x) :: L) S k n H Q ↔ W (pj lw) 100 25 (.val (.ref x) :: L) (.ref x :: S) k n H Q := W_s (rfl : (pj lw).1 100 24 = some (.aload_n 0, 1, 0)) rfl rfl rfl
theorem w100_25 {x : Int32} {l0 l1 : Slot} : W (pj lw) 100 25 (l0 :: l1 :: .val (.int x) :: L) S k n H Q ↔ W (pj lw) 100 26 (l0 :: l1 :: .val (.int x) :: L) (.int x :: S) k n H Q := W_s (rfl : (pj lw).1 100 25 = some (.iload_n 2, 1, 0)) rfl rfl rfl
theorem w100_26 {i : Int32} {a : Nat} : W (pj lw) 100 26 L (.int i :: .ref a :: S) k n H Q ↔ (inA H a .int i = true ∧ W (pj lw) 100 27 L (elt H a i :: S) k n H Q) := W_iaload (rfl : (pj lw).1 100 26 = some (.iaload, 1, 0))
theorem w100_27 : W (pj lw) 100 27 L S k n H Q ↔ W (pj lw) 100 28 L (.int 3 :: S) k n H Q := W_s (rfl : (pj lw).1 100 27 = some (.iconst 3, 1, 0)) rfl rfl rfl
theorem w100_28 {x y : Int32} : W (pj lw) 100 28 L (.int y :: .int x :: S) k n H Q ↔ W (pj lw) 100 29 L (.int (x &&& y) :: S) k n H Q := W_s (rfl : (pj lw).1 100 28 = some (.iand, 1, 0)) rfl rfl rfl
theorem w100_29 {x : Int32} {l0 l1 l2 : Slot} : W (pj lw) 100 29 (l0 :: l1 :: l2 :: .unset :: L) (.int x :: S) k n H Q ↔ W (pj lw) 100 30 (l0 :: l1 :: l2 :: .val (.int x) :: L) S k n H Q := W_istn (rfl : (pj lw).1 100 29 = some (.istore_n 3, 1, 0)) rfl rfl
theorem w100_30 {x : Nat} : W (pj lw) 100 30 (.val (.ref x) :: L) S k n H Q ↔ W (pj lw) 100 31 (.val (.ref x) :: L) (.ref x :: S) k n H Q := W_s (rfl : (pj lw).1 100 30 = some (.aload_n 0, 1, 0)) rfl rfl rfl
theorem w100_31 {x : Int32} {l0 l1 : Slot} : W (pj lw) 100 31 (l0 :: l1 :: .val (.int x) :: L) S k n H Q ↔ W (pj lw) 100 32 (l0 :: l1 :: .val (.int x) :: L) (.int x :: S) k n H Q := W_s (rfl : (pj lw).1 100 31 = some (.iload_n 2, 1, 0)) rfl rfl rfl
theorem w100_32 : W (pj lw) 100 32 L S k n H Q ↔ W (pj lw) 100 33 L (.int 1 :: S) k n H Q := W_s (rfl : (pj lw).1 100 32 = some (.iconst 1, 1, 0)) rfl rfl rfl
theorem w100_33 {x y : Int32} : W (pj lw) 100 33 L (.int y :: .int x :: S) k n H Q ↔ W (pj lw) 100 34 L (.int (x + y) :: S) k n H Q := W_s (rfl : (pj lw).1 100 33 = some (.iadd, 1, 0)) rfl rfl rfl
theorem w100_34 {i : Int32} {a : Nat} : W (pj lw) 100 34 L (.int i :: .ref a :: S) k n H Q ↔ (inA H a .int i = true ∧ W (pj lw) 100 35 L (elt H a i :: S) k n H Q) := W_iaload (rfl : (pj lw).1 100 34 = some (.iaload, 1, 0))
theorem w100_35 {x : Int32} {l0 l1 l2 l3 : Slot} : W (pj lw) 100 35 (l0 :: l1 :: l2 :: l3 :: .unset :: L) (.int x :: S) k n H Q ↔ W (pj lw) 100 37 (l0 :: l1 :: l2 :: l3 :: .val (.int x) :: L) S k n H Q := W_ist (rfl : (pj lw).1 100 35 = some (.istore 4, 2, 0)) rfl rfl
theorem w100_37 {x : Nat} : W (pj lw) 100 37 (.val (.ref x) :: L) S k n H Q ↔ W (pj lw) 100 38 (.val (.ref x) :: L) (.ref x :: S) k n H Q := W_s (rfl : (pj lw).1 100 37 = some (.aload_n 0, 1, 0)) rfl rfl rfl
theorem w100_38 {x : Int32} {l0 l1 : Slot} : W (pj lw) 100 38 (l0 :: l1 :: .val (.int x) :: L) S k n H Q ↔ W (pj lw) 100 39 (l0 :: l1 :: .val (.int x) :: L) (.int x :: S) k n H Q := W_s (rfl : (pj lw).1 100 38 = some (.iload_n 2, 1, 0)) rfl rfl rfl
theorem w100_39 : W (pj lw) 100 39 L S k n H Q ↔ W (pj lw) 100 40 L (.int 2 :: S) k n H Q := W_s (rfl : (pj lw).1 100 39 = some (.iconst 2, 1, 0)) rfl rfl rfl
theorem w100_40 {x y : Int32} : W (pj lw) 100 40 L (.int y :: .int x :: S) k n H Q ↔ W (pj lw) 100 41 L (.int (x + y) :: S) k n H Q := W_s (rfl : (pj lw).1 100 40 = some (.iadd, 1, 0)) rfl rfl rfl
theorem w100_41 {i : Int32} {a : Nat} : W (pj lw) 100 41 L (.int i :: .ref a :: S) k n H Q ↔ (inA H a .int i = true ∧ W (pj lw) 100 42 L (elt H a i :: S) k n H Q) := W_iaload (rfl : (pj lw).1 100 41 = some (.iaload, 1, 0))
theorem w100_42 {x : Int32} {l0 l1 l2 l3 l4 : Slot} : W (pj lw) 100 42 (l0 :: l1 :: l2 :: l3 :: l4 :: .unset :: L) (.int x :: S) k n H Q ↔ W (pj lw) 100 44 (l0 :: l1 :: l2 :: l3 :: l4 :: .val (.int x) :: L) S k n H Q := W_ist (rfl : (pj lw).1 100 42 = some (.istore 5, 2, 0)) rfl rfl
theorem w100_44 {x : Nat} : W (pj lw) 100 44 (.val (.ref x) :: L) S k n H Q ↔ W (pj lw) 100 45 (.val (.ref x) :: L) (.ref x :: S) k n H Q := W_s (rfl : (pj lw).1 100 44 = some (.aload_n 0, 1, 0)) rfl rfl rfl
theorem w100_45 {x : Int32} {l0 l1 : Slot} : W (pj lw) 100 45 (l0 :: l1 :: .val (.int x) :: L) S k n H Q ↔ W (pj lw) 100 46 (l0 :: l1 :: .val (.int x) :: L) (.int x :: S) k n H Q := W_s (rfl : (pj lw).1 100 45 = some (.iload_n 2, 1, 0)) rfl rfl rfl
theorem w100_46 : W (pj lw) 100 46 L S k n H Q ↔ W (pj lw) 100 47 L (.int 3 :: S) k n H Q := W_s (rfl : (pj lw).1 100 46 = some (.iconst 3, 1, 0)) rfl rfl rfl
theorem w100_47 {x y : Int32} : W (pj lw) 100 47 L (.int y :: .int x :: S) k n H Q ↔ W (pj lw) 100 48 L (.int (x + y) :: S) k n H Q := W_s (rfl : (pj lw).1 100 47 = some (.iadd, 1, 0)) rfl rfl rfl
theorem w100_48 {i : Int32} {a : Nat} : W (pj lw) 100 48 L (.int i :: .ref a :: S) k n H Q ↔ (inA H a .int i = true ∧ W (pj lw) 100 49 L (elt H a i :: S) k n H Q) := W_iaload (rfl : (pj lw).1 100 48 = some (.iaload, 1, 0))
theorem w100_49 {x : Int32} {l0 l1 l2 l3 l4 l5 : Slot} : W (pj lw) 100 49 (l0 :: l1 :: l2 :: l3 :: l4 :: l5 :: .unset :: L) (.int x :: S) k n H Q ↔ W (pj lw) 100 51 (l0 :: l1 :: l2 :: l3 :: l4 :: l5 :: .val (.int x) :: L) S k n H Q := W_ist (rfl : (pj lw).1 100 49 = some (.istore 6, 2, 0)) rfl rfl
theorem w100_51 {x : Nat} : W (pj lw) 100 51 (.val (.ref x) :: L) S k n H Q ↔ W (pj lw) 100 52 (.val (.ref x) :: L) (.ref x :: S) k n H Q := W_s (rfl : (pj lw).1 100 51 = some (.aload_n 0, 1, 0)) rfl rfl rfl
theorem w100_52 {x : Int32} {l0 l1 : Slot} : W (pj lw) 100 52 (l0 :: l1 :: .val (.int x) :: L) S k n H Q ↔ W (pj lw) 100 53 (l0 :: l1 :: .val (.int x) :: L) (.int x :: S) k n H Q := W_s (rfl : (pj lw).1 100 52 = some (.iload_n 2, 1, 0)) rfl rfl rfl
theorem w100_53 : W (pj lw) 100 53 L S k n H Q ↔ W (pj lw) 100 54 L (.int 4 :: S) k n H Q := W_s (rfl : (pj lw).1 100 53 = some (.iconst 4, 1, 0)) rfl rfl rfl
theorem w100_54 {x y : Int32} : W (pj lw) 100 54 L (.int y :: .int x :: S) k n H Q ↔ W (pj lw) 100 55 L (.int (x + y) :: S) k n H Q := W_s (rfl : (pj lw).1 100 54 = some (.iadd, 1, 0)) rfl rfl rfl
theorem w100_55 {i : Int32} {a : Nat} : W (pj lw) 100 55 L (.int i :: .ref a :: S) k n H Q ↔ (inA H a .int i = true ∧ W (pj lw) 100 56 L (elt H a i :: S) k n H Q) := W_iaload (rfl : (pj lw).1 100 55 = some (.iaload, 1, 0))
theorem w100_56 {x : Int32} {l0 l1 l2 l3 l4 l5 l6 : Slot} : W (pj lw) 100 56 (l0 :: l1 :: l2 :: l3 :: l4 :: l5 :: l6 :: .unset :: L) (.int x :: S) k n H Q ↔ W (pj lw) 100 58 (l0 :: l1 :: l2 :: l3 :: l4 :: l5 :: l6 :: .val (.int x) :: L) S k n H Q := W_ist (rfl : (pj lw).1 100 56 = some (.istore 7, 2, 0)) rfl rfl
theorem w100_58 {x : Int32} {l0 l1 l2 : Slot} : W (pj lw) 100 58 (l0 :: l1 :: l2 :: .val (.int x) :: L) S k n H Q ↔ W (pj lw) 100 59 (l0 :: l1 :: l2 :: .val (.int x) :: L) (.int x :: S) k n H Q := W_s (rfl : (pj lw).1 100 58 = some (.iload_n 3, 1, 0)) rfl rfl rfl
theorem w100_59 {x : Int32} : W (pj lw) 100 59 L (.int x :: S) k n H Q ↔ (if x = 0 then W (pj lw) 100 62 L S k n H Q else W (pj lw) 100 78 L S k n H Q) := W_if_ne (rfl : (pj lw).1 100 59 = some (.ifCond .ne 19, 3, 0)) rfl
theorem w100_62 {x : Nat} {l0 : Slot} : W (pj lw) 100 62 (l0 :: .val (.ref x) :: L) S k n H Q ↔ W (pj lw) 100 63 (l0 :: .val (.ref x) :: L) (.ref x :: S) k n H Q := W_s (rfl : (pj lw).1 100 62 = some (.aload_n 1, 1, 0)) rfl rfl rfl
theorem w100_63 {x : Int32} {l0 l1 l2 l3 : Slot} : W (pj lw) 100 63 (l0 :: l1 :: l2 :: l3 :: .val (.int x) :: L) S k n H Q ↔ W (pj lw) 100 65 (l0 :: l1 :: l2 :: l3 :: .val (.int x) :: L) (.int x :: S) k n H Q := W_s (rfl : (pj lw).1 100 63 = some (.iload 4, 2, 0)) rfl rfl rfl
theorem w100_65 {x : Int32} {l0 l1 l2 l3 l4 : Slot} : W (pj lw) 100 65 (l0 :: l1 :: l2 :: l3 :: l4 :: .val (.int x) :: L) S k n H Q ↔ W (pj lw) 100 67 (l0 :: l1 :: l2 :: l3 :: l4 :: .val (.int x) :: L) (.int x :: S) k n H Q := W_s (rfl : (pj lw).1 100 65 = some (.iload 5, 2, 0)) rfl rfl rfl
theorem w100_67 {x : Int32} {l0 l1 l2 l3 l4 l5 : Slot} : W (pj lw) 100 67 (l0 :: l1 :: l2 :: l3 :: l4 :: l5 :: .val (.int x) :: L) S k n H Q ↔ W (pj lw) 100 69 (l0 :: l1 :: l2 :: l3 :: l4 :: l5 :: .val (.int x) :: L) (.int x :: S) k n H Q := W_s (rfl : (pj lw).1 100 67 = some (.iload 6, 2, 0)) rfl rfl rfl
theorem w100_69 {x : Int32} {l0 l1 l2 l3 l4 l5 l6 : Slot} : W (pj lw) 100 69 (l0 :: l1 :: l2 :: l3 :: l4 :: l5 :: l6 :: .val (.int x) :: L) S k n H Q ↔ W (pj lw) 100 71 (l0 :: l1 :: l2 :: l3 :: l4 :: l5 :: l6 :: .val (.int x) :: L) (.int x :: S) k n H Q := W_s (rfl : (pj lw).1 100 69 = some (.iload 7, 2, 0)) rfl rfl rfl
theorem w100_71 {a : Nat} {x0 : Int32} {x1 : Int32} {x2 : Int32} {x3 : Int32} : W (pj lw) 100 71 L (.int x3 :: .int x2 :: .int x1 :: .int x0 :: .ref a :: S) k n H Q ↔ ((isO H a = true ∧ cs S + (5 + 11) + 15 ≤ 224) ∧ Cl (pj lw) 2 [.ref a, .int x0, .int x1, .int x2, .int x3] H (fun v H => W (pj lw) 100 74 L (v.toList ++ S) k n H Q)) := W_inst (as := [.int x0, .int x1, .int x2, .int x3]) (rfl : (pj lw).1 100 71 = some (.invokevirtual 12, 3, 2)) rfl rfl rfl (Nat.le_of_ble_eq_true rfl) (Nat.le_of_ble_eq_true rfl) ⟨rfl, rfl⟩
theorem w100_74 {x : Int32} : W (pj lw) 100 74 L (.int x :: S) k n H Q ↔ W (pj lw) 100 75 L S k n H Q := W_s (rfl : (pj lw).1 100 74 = some (.pop, 1, 0)) rfl rfl rfl
theorem w100_75 : W (pj lw) 100 75 L S k n H Q ↔ W (pj lw) 100 137 L S k n H Q := W_goto (rfl : (pj lw).1 100 75 = some (.goto 62, 3, 0)) rfl
theorem w100_78 {x : Int32} {l0 l1 l2 : Slot} : W (pj lw) 100 78 (l0 :: l1 :: l2 :: .val (.int x) :: L) S k n H Q ↔ W (pj lw) 100 79 (l0 :: l1 :: l2 :: .val (.int x) :: L) (.int x :: S) k n H Q := W_s (rfl : (pj lw).1 100 78 = some (.iload_n 3, 1, 0)) rfl rfl rfl
theorem w100_79 : W (pj lw) 100 79 L S k n H Q ↔ W (pj lw) 100 80 L (.int 1 :: S) k n H Q := W_s (rfl : (pj lw).1 100 79 = some (.iconst 1, 1, 0)) rfl rfl rfl
theorem w100_80 {x y : Int32} : W (pj lw) 100 80 L (.int y :: .int x :: S) k n H Q ↔ (if x = y then W (pj lw) 100 83 L S k n H Q else W (pj lw) 100 107 L S k n H Q) := W_icmp_ne (rfl : (pj lw).1 100 80 = some (.if_icmp .ne 27, 3, 0)) rfl
theorem w100_83 {x : Nat} {l0 : Slot} : W (pj lw) 100 83 (l0 :: .val (.ref x) :: L) S k n H Q ↔ W (pj lw) 100 84 (l0 :: .val (.ref x) :: L) (.ref x :: S) k n H Q := W_s (rfl : (pj lw).1 100 83 = some (.aload_n 1, 1, 0)) rfl rfl rfl
theorem w100_84 {x : Int32} {l0 l1 l2 l3 : Slot} : W (pj lw) 100 84 (l0 :: l1 :: l2 :: l3 :: .val (.int x) :: L) S k n H Q ↔ W (pj lw) 100 86 (l0 :: l1 :: l2 :: l3 :: .val (.int x) :: L) (.int x :: S) k n H Q := W_s (rfl : (pj lw).1 100 84 = some (.iload 4, 2, 0)) rfl rfl rfl
theorem w100_86 {x : Int32} {l0 l1 l2 l3 l4 : Slot} : W (pj lw) 100 86 (l0 :: l1 :: l2 :: l3 :: l4 :: .val (.int x) :: L) S k n H Q ↔ W (pj lw) 100 88 (l0 :: l1 :: l2 :: l3 :: l4 :: .val (.int x) :: L) (.int x :: S) k n H Q := W_s (rfl : (pj lw).1 100 86 = some (.iload 5, 2, 0)) rfl rfl rfl
theorem w100_88 {x : Int32} {l0 l1 l2 l3 l4 l5 : Slot} : W (pj lw) 100 88 (l0 :: l1 :: l2 :: l3 :: l4 :: l5 :: .val (.int x) :: L) S k n H Q ↔ W (pj lw) 100 90 (l0 :: l1 :: l2 :: l3 :: l4 :: l5 :: .val (.int x) :: L) (.int x :: S) k n H Q := W_s (rfl : (pj lw).1 100 88 = some (.iload 6, 2, 0)) rfl rfl rfl
theorem w100_90 {x : Int32} {l0 l1 l2 l3 l4 l5 l6 : Slot} : W (pj lw) 100 90 (l0 :: l1 :: l2 :: l3 :: l4 :: l5 :: l6 :: .val (.int x) :: L) S k n H Q ↔ W (pj lw) 100 92 (l0 :: l1 :: l2 :: l3 :: l4 :: l5 :: l6 :: .val (.int x) :: L) (.int x :: S) k n H Q := W_s (rfl : (pj lw).1 100 90 = some (.iload 7, 2, 0)) rfl rfl rfl
theorem w100_92 {x : Int32} : W (pj lw) 100 92 L (.int x :: S) k n H Q ↔ (if x = 0 then W (pj lw) 100 99 L S k n H Q else W (pj lw) 100 95 L S k n H Q) := W_if_eq (rfl : (pj lw).1 100 92 = some (.ifCond .eq 7, 3, 0)) rfl
theorem w100_95 : W (pj lw) 100 95 L S k n H Q ↔ W (pj lw) 100 96 L (.int 1 :: S) k n H Q := W_s (rfl : (pj lw).1 100 95 = some (.iconst 1, 1, 0)) rfl rfl rfl
theorem w100_96 : W (pj lw) 100 96 L S k n H Q ↔ W (pj lw) 100 100 L S k n H Q := W_goto (rfl : (pj lw).1 100 96 = some (.goto 4, 3, 0)) rfl
theorem w100_99 : W (pj lw) 100 99 L S k n H Q ↔ W (pj lw) 100 100 L (.int 0 :: S) k n H Q := W_s (rfl : (pj lw).1 100 99 = some (.iconst 0, 1, 0)) rfl rfl rfl
theorem w100_100 {a : Nat} {x0 : Int32} {x1 : Int32} {x2 : Int32} {x3 : Int32} : W (pj lw) 100 100 L (.int x3 :: .int x2 :: .int x1 :: .int x0 :: .ref a :: S) k n H Q ↔ ((isO H a = true ∧ cs S + (6 + 11) + 15 ≤ 224) ∧ Cl (pj lw) 5 [.ref a, .int x0, .int x1, .int x2, .int x3] H (fun v H => W (pj lw) 100 103 L (v.toList ++ S) k n H Q)) := W_inst (as := [.int x0, .int x1, .int x2, .int x3]) (rfl : (pj lw).1 100 100 = some (.invokevirtual 16, 3, 5)) rfl rfl rfl (Nat.le_of_ble_eq_true rfl) (Nat.le_of_ble_eq_true rfl) ⟨rfl, rfl⟩
theorem w100_103 {x : Int32} : W (pj lw) 100 103 L (.int x :: S) k n H Q ↔ W (pj lw) 100 104 L S k n H Q := W_s (rfl : (pj lw).1 100 103 = some (.pop, 1, 0)) rfl rfl rfl
theorem w100_104 : W (pj lw) 100 104 L S k n H Q ↔ W (pj lw) 100 137 L S k n H Q := W_goto (rfl : (pj lw).1 100 104 = some (.goto 33, 3, 0)) rfl
theorem w100_107 {x : Int32} {l0 l1 l2 : Slot} : W (pj lw) 100 107 (l0 :: l1 :: l2 :: .val (.int x) :: L) S k n H Q ↔ W (pj lw) 100 108 (l0 :: l1 :: l2 :: .val (.int x) :: L) (.int x :: S) k n H Q := W_s (rfl : (pj lw).1 100 107 = some (.iload_n 3, 1, 0)) rfl rfl rfl
theorem w100_108 : W (pj lw) 100 108 L S k n H Q ↔ W (pj lw) 100 109 L (.int 2 :: S) k n H Q := W_s (rfl : (pj lw).1 100 108 = some (.iconst 2, 1, 0)) rfl rfl rfl
theorem w100_109 {x y : Int32} : W (pj lw) 100 109 L (.int y :: .int x :: S) k n H Q ↔ (if x = y then W (pj lw) 100 112 L S k n H Q else W (pj lw) 100 130 L S k n H Q) := W_icmp_ne (rfl : (pj lw).1 100 109 = some (.if_icmp .ne 21, 3, 0)) rfl
theorem w100_112 {x : Nat} {l0 : Slot} : W (pj lw) 100 112 (l0 :: .val (.ref x) :: L) S k n H Q ↔ W (pj lw) 100 113 (l0 :: .val (.ref x) :: L) (.ref x :: S) k n H Q := W_s (rfl : (pj lw).1 100 112 = some (.aload_n 1, 1, 0)) rfl rfl rfl
theorem w100_113 {x : Int32} {l0 l1 l2 l3 : Slot} : W (pj lw) 100 113 (l0 :: l1 :: l2 :: l3 :: .val (.int x) :: L) S k n H Q ↔ W (pj lw) 100 115 (l0 :: l1 :: l2 :: l3 :: .val (.int x) :: L) (.int x :: S) k n H Q := W_s (rfl : (pj lw).1 100 113 = some (.iload 4, 2, 0)) rfl rfl rfl
theorem w100_115 {x : Int32} : W (pj lw) 100 115 L (.int x :: S) k n H Q ↔ (if x = 0 then W (pj lw) 100 122 L S k n H Q else W (pj lw) 100 118 L S k n H Q) := W_if_eq (rfl : (pj lw).1 100 115 = some (.ifCond .eq 7, 3, 0)) rfl
theorem w100_118 : W (pj lw) 100 118 L S k n H Q ↔ W (pj lw) 100 119 L (.int 1 :: S) k n H Q := W_s (rfl : (pj lw).1 100 118 = some (.iconst 1, 1, 0)) rfl rfl rfl
theorem w100_119 : W (pj lw) 100 119 L S k n H Q ↔ W (pj lw) 100 123 L S k n H Q := W_goto (rfl : (pj lw).1 100 119 = some (.goto 4, 3, 0)) rfl
theorem w100_122 : W (pj lw) 100 122 L S k n H Q ↔ W (pj lw) 100 123 L (.int 0 :: S) k n H Q := W_s (rfl : (pj lw).1 100 122 = some (.iconst 0, 1, 0)) rfl rfl rfl
theorem w100_123 {a : Nat} {x0 : Int32} : W (pj lw) 100 123 L (.int x0 :: .ref a :: S) k n H Q ↔ ((isO H a = true ∧ cs S + (3 + 11) + 0 ≤ 224) ∧ Cl (pj lw) 7 [.ref a, .int x0] H (fun v H => W (pj lw) 100 126 L (v.toList ++ S) k n H Q)) := W_inst (as := [.int x0]) (rfl : (pj lw).1 100 123 = some (.invokevirtual 20, 3, 7)) rfl rfl rfl (Nat.le_of_ble_eq_true rfl) (Nat.le_of_ble_eq_true rfl) ⟨rfl, rfl⟩
theorem w100_126 {x : Int32} : W (pj lw) 100 126 L (.int x :: S) k n H Q ↔ W (pj lw) 100 127 L S k n H Q := W_s (rfl : (pj lw).1 100 126 = some (.pop, 1, 0)) rfl rfl rfl
theorem w100_127 : W (pj lw) 100 127 L S k n H Q ↔ W (pj lw) 100 137 L S k n H Q := W_goto (rfl : (pj lw).1 100 127 = some (.goto 10, 3, 0)) rfl
theorem w100_130 {x : Nat} {l0 : Slot} : W (pj lw) 100 130 (l0 :: .val (.ref x) :: L) S k n H Q ↔ W (pj lw) 100 131 (l0 :: .val (.ref x) :: L) (.ref x :: S) k n H Q := W_s (rfl : (pj lw).1 100 130 = some (.aload_n 1, 1, 0)) rfl rfl rfl
theorem w100_131 {x : Int32} {l0 l1 l2 l3 : Slot} : W (pj lw) 100 131 (l0 :: l1 :: l2 :: l3 :: .val (.int x) :: L) S k n H Q ↔ W (pj lw) 100 133 (l0 :: l1 :: l2 :: l3 :: .val (.int x) :: L) (.int x :: S) k n H Q := W_s (rfl : (pj lw).1 100 131 = some (.iload 4, 2, 0)) rfl rfl rfl
theorem w100_133 {a : Nat} {x0 : Int32} : W (pj lw) 100 133 L (.int x0 :: .ref a :: S) k n H Q ↔ ((isO H a = true ∧ cs S + (3 + 11) + 93 ≤ 224) ∧ Cl (pj lw) 8 [.ref a, .int x0] H (fun v H => W (pj lw) 100 136 L (v.toList ++ S) k n H Q)) := W_inst (as := [.int x0]) (rfl : (pj lw).1 100 133 = some (.invokevirtual 24, 3, 8)) rfl rfl rfl (Nat.le_of_ble_eq_true rfl) (Nat.le_of_ble_eq_true rfl) ⟨rfl, rfl⟩
theorem w100_136 {x : Int32} : W (pj lw) 100 136 L (.int x :: S) k n H Q ↔ W (pj lw) 100 137 L S k n H Q := W_s (rfl : (pj lw).1 100 136 = some (.pop, 1, 0)) rfl rfl rfl
theorem w100_137 {x : Nat} {l0 : Slot} : W (pj lw) 100 137 (l0 :: .val (.ref x) :: L) S k n H Q ↔ W (pj lw) 100 138 (l0 :: .val (.ref x) :: L) (.ref x :: S) k n H Q := W_s (rfl : (pj lw).1 100 137 = some (.aload_n 1, 1, 0)) rfl rfl rfl
theorem w100_138 {x0 : Nat} : W (pj lw) 100 138 L (.ref x0 :: S) k n H Q ↔ (cs S + (15 + 11) + 29 ≤ 224 ∧ Cl (pj lw) 103 [.ref x0] H (fun v H => W (pj lw) 100 141 L (v.toList ++ S) k n H Q)) := W_stat (a := [.ref x0]) (rfl : (pj lw).1 100 138 = some (.invokestatic 28, 3, 103)) rfl rfl rfl (Nat.le_of_ble_eq_true rfl) (Nat.le_of_ble_eq_true rfl) ⟨rfl, rfl⟩
theorem w100_141 {x : Int32} : W (pj lw) 100 141 L (.int x :: S) k n H Q ↔ (if x = 0 then W (pj lw) 100 144 L S k n H Q else W (pj lw) 100 146 L S k n H Q) := W_if_ne (rfl : (pj lw).1 100 141 = some (.ifCond .ne 5, 3, 0)) rfl
theorem w100_146 {x : Int32} {l0 l1 : Slot} : W (pj lw) 100 146 (l0 :: l1 :: .val (.int x) :: L) S k n H Q ↔ W (pj lw) 100 149 (l0 :: l1 :: .val (.int (x + 5)) :: L) S k n H Q := W_s (rfl : (pj lw).1 100 146 = some (.iinc 2 5, 3, 0)) rfl rfl rfl
theorem w100_149 : W (pj lw) 100 149 L S k n H Q ↔ W (pj lw) 100 16 L S k n H Q := W_goto (rfl : (pj lw).1 100 149 = some (.goto (-133), 3, 0)) rfl
theorem w100_152 : W (pj lw) 100 152 L S k n H Q ↔ W (pj lw) 100 153 L (.int 1 :: S) k n H Q := W_s (rfl : (pj lw).1 100 152 = some (.iconst 1, 1, 0)) rfl rfl rfl
theorem w100_153 {x : Int32} : W (pj lw) 100 153 L (.int x :: S) k n H Q ↔ ((x = 0 ∨ x = 1) ∧ Q (some (.int x)) H) := W_rz (rfl : (pj lw).1 100 153 = some (.ireturn, 1, 0)) rfl
theorem c103 {x0 : Nat} : Cl (pj lw) 103 [.ref x0] H Q ↔ W (pj lw) 103 0 [.val (.ref x0), .unset, .unset, .unset, .unset, .unset, .unset, .unset, .unset, .unset, .unset, .unset, .unset, .unset, .unset] [] 0 0 H Q := cl_unf rfl
theorem w103_0 {x : Nat} : W (pj lw) 103 0 (.val (.ref x) :: L) S k n H Q ↔ W (pj lw) 103 1 (.val (.ref x) :: L) (.ref x :: S) k n H Q := W_s (rfl : (pj lw).1 103 0 = some (.aload_n 0, 1, 0)) rfl rfl rfl
theorem w103_1 : W (pj lw) 103 1 L S k n H Q ↔ W (pj lw) 103 2 L (.int 2 :: S) k n H Q := W_s (rfl : (pj lw).1 103 1 = some (.iconst 2, 1, 0)) rfl rfl rfl
theorem w103_2 {a : Nat} {x0 : Int32} : W (pj lw) 103 2 L (.int x0 :: .ref a :: S) k n H Q ↔ ((isO H a = true ∧ cs S + (2 + 11) + 0 ≤ 29) ∧ Cl (pj lw) 34 [.ref a, .int x0] H (fun v H => W (pj lw) 103 5 L (v.toList ++ S) k n H Q)) := W_inst (as := [.int x0]) (rfl : (pj lw).1 103 2 = some (.invokevirtual 34, 3, 34)) rfl rfl rfl (Nat.le_of_ble_eq_true rfl) (Nat.le_of_ble_eq_true rfl) ⟨rfl, rfl⟩
theorem w103_5uu {x : Int64} {l0 : Slot} : W (pj lw) 103 5 (l0 :: .unset :: .unset :: L) (.long x :: S) k n H Q ↔ W (pj lw) 103 6 (l0 :: .val (.long x) :: .second :: L) S k n H Q := W_lstn (rfl : (pj lw).1 103 5 = some (.lstore_n 1, 1, 0)) rfl rfl rfl rfl
theorem w103_6 {x : Nat} : W (pj lw) 103 6 (.val (.ref x) :: L) S k n H Q ↔ W (pj lw) 103 7 (.val (.ref x) :: L) (.ref x :: S) k n H Q := W_s (rfl : (pj lw).1 103 6 = some (.aload_n 0, 1, 0)) rfl rfl rfl
theorem w103_7 : W (pj lw) 103 7 L S k n H Q ↔ W (pj lw) 103 8 L (.int 1 :: S) k n H Q := W_s (rfl : (pj lw).1 103 7 = some (.iconst 1, 1, 0)) rfl rfl rfl
theorem w103_8 {a : Nat} {x0 : Int32} : W (pj lw) 103 8 L (.int x0 :: .ref a :: S) k n H Q ↔ ((isO H a = true ∧ cs S + (2 + 11) + 0 ≤ 29) ∧ Cl (pj lw) 34 [.ref a, .int x0] H (fun v H => W (pj lw) 103 11 L (v.toList ++ S) k n H Q)) := W_inst (as := [.int x0]) (rfl : (pj lw).1 103 8 = some (.invokevirtual 34, 3, 34)) rfl rfl rfl (Nat.le_of_ble_eq_true rfl) (Nat.le_of_ble_eq_true rfl) ⟨rfl, rfl⟩
theorem w103_11uu {x : Int64} {l0 l1 l2 : Slot} : W (pj lw) 103 11 (l0 :: l1 :: l2 :: .unset :: .unset :: L) (.long x :: S) k n H Q ↔ W (pj lw) 103 12 (l0 :: l1 :: l2 :: .val (.long x) :: .second :: L) S k n H Q := W_lstn (rfl : (pj lw).1 103 11 = some (.lstore_n 3, 1, 0)) rfl rfl rfl rfl
theorem w103_12 {x : Nat} : W (pj lw) 103 12 (.val (.ref x) :: L) S k n H Q ↔ W (pj lw) 103 13 (.val (.ref x) :: L) (.ref x :: S) k n H Q := W_s (rfl : (pj lw).1 103 12 = some (.aload_n 0, 1, 0)) rfl rfl rfl
theorem w103_13 : W (pj lw) 103 13 L S k n H Q ↔ W (pj lw) 103 14 L (.int 3 :: S) k n H Q := W_s (rfl : (pj lw).1 103 13 = some (.iconst 3, 1, 0)) rfl rfl rfl
theorem w103_14 {a : Nat} {x0 : Int32} : W (pj lw) 103 14 L (.int x0 :: .ref a :: S) k n H Q ↔ ((isO H a = true ∧ cs S + (2 + 11) + 0 ≤ 29) ∧ Cl (pj lw) 34 [.ref a, .int x0] H (fun v H => W (pj lw) 103 17 L (v.toList ++ S) k n H Q)) := W_inst (as := [.int x0]) (rfl : (pj lw).1 103 14 = some (.invokevirtual 34, 3, 34)) rfl rfl rfl (Nat.le_of_ble_eq_true rfl) (Nat.le_of_ble_eq_true rfl) ⟨rfl, rfl⟩
theorem w103_17uu {x : Int64} {l0 l1 l2 l3 l4 : Slot} : W (pj lw) 103 17 (l0 :: l1 :: l2 :: l3 :: l4 :: .unset :: .unset :: L) (.long x :: S) k n H Q ↔ W (pj lw) 103 19 (l0 :: l1 :: l2 :: l3 :: l4 :: .val (.long x) :: .second :: L) S k n H Q := W_lst (rfl : (pj lw).1 103 17 = some (.lstore 5, 2, 0)) rfl rfl rfl rfl
theorem w103_19 {x : Nat} : W (pj lw) 103 19 (.val (.ref x) :: L) S k n H Q ↔ W (pj lw) 103 20 (.val (.ref x) :: L) (.ref x :: S) k n H Q := W_s (rfl : (pj lw).1 103 19 = some (.aload_n 0, 1, 0)) rfl rfl rfl
theorem w103_20 : W (pj lw) 103 20 L S k n H Q ↔ W (pj lw) 103 21 L (.int 4 :: S) k n H Q := W_s (rfl : (pj lw).1 103 20 = some (.iconst 4, 1, 0)) rfl rfl rfl
theorem w103_21 {a : Nat} {x0 : Int32} : W (pj lw) 103 21 L (.int x0 :: .ref a :: S) k n H Q ↔ ((isO H a = true ∧ cs S + (2 + 11) + 0 ≤ 29) ∧ Cl (pj lw) 34 [.ref a, .int x0] H (fun v H => W (pj lw) 103 24 L (v.toList ++ S) k n H Q)) := W_inst (as := [.int x0]) (rfl : (pj lw).1 103 21 = some (.invokevirtual 34, 3, 34)) rfl rfl rfl (Nat.le_of_ble_eq_true rfl) (Nat.le_of_ble_eq_true rfl) ⟨rfl, rfl⟩
theorem w103_24uu {x : Int64} {l0 l1 l2 l3 l4 l5 l6 : Slot} : W (pj lw) 103 24 (l0 :: l1 :: l2 :: l3 :: l4 :: l5 :: l6 :: .unset :: .unset :: L) (.long x :: S) k n H Q ↔ W (pj lw) 103 26 (l0 :: l1 :: l2 :: l3 :: l4 :: l5 :: l6 :: .val (.long x) :: .second :: L) S k n H Q := W_lst (rfl : (pj lw).1 103 24 = some (.lstore 7, 2, 0)) rfl rfl rfl rfl
theorem w103_26 {x : Int64} {l0 : Slot} : W (pj lw) 103 26 (l0 :: .val (.long x) :: L) S k n H Q ↔ W (pj lw) 103 27 (l0 :: .val (.long x) :: L) (.long x :: S) k n H Q := W_s (rfl : (pj lw).1 103 26 = some (.lload_n 1, 1, 0)) rfl rfl rfl
theorem w103_27 {x : Int64} {l0 l1 l2 : Slot} : W (pj lw) 103 27 (l0 :: l1 :: l2 :: .val (.long x) :: L) S k n H Q ↔ W (pj lw) 103 28 (l0 :: l1 :: l2 :: .val (.long x) :: L) (.long x :: S) k n H Q := W_s (rfl : (pj lw).1 103 27 = some (.lload_n 3, 1, 0)) rfl rfl rfl
theorem w103_28 {x : Int64} {l0 l1 l2 l3 l4 : Slot} : W (pj lw) 103 28 (l0 :: l1 :: l2 :: l3 :: l4 :: .val (.long x) :: L) S k n H Q ↔ W (pj lw) 103 30 (l0 :: l1 :: l2 :: l3 :: l4 :: .val (.long x) :: L) (.long x :: S) k n H Q := W_s (rfl : (pj lw).1 103 28 = some (.lload 5, 2, 0)) rfl rfl rfl
theorem w103_30 {x y : Int64} : W (pj lw) 103 30 L (.long y :: .long x :: S) k n H Q ↔ W (pj lw) 103 31 L (.long (x + y) :: S) k n H Q := W_s (rfl : (pj lw).1 103 30 = some (.ladd, 1, 0)) rfl rfl rfl
theorem w103_31 {x y : Int64} : W (pj lw) 103 31 L (.long y :: .long x :: S) k n H Q ↔ W (pj lw) 103 32 L (.int (Jvm.Free.XT.cmpL x y) :: S) k n H Q := W_s (rfl : (pj lw).1 103 31 = some (.lcmp, 1, 0)) rfl rfl rfl
theorem w103_32 {x : Int32} : W (pj lw) 103 32 L (.int x :: S) k n H Q ↔ (if x = 0 then W (pj lw) 103 37 L S k n H Q else W (pj lw) 103 35 L S k n H Q) := W_if_eq (rfl : (pj lw).1 103 32 = some (.ifCond .eq 5, 3, 0)) rfl
theorem w103_37 {x : Int64} {l0 l1 l2 l3 l4 l5 l6 : Slot} : W (pj lw) 103 37 (l0 :: l1 :: l2 :: l3 :: l4 :: l5 :: l6 :: .val (.long x) :: L) S k n H Q ↔ W (pj lw) 103 39 (l0 :: l1 :: l2 :: l3 :: l4 :: l5 :: l6 :: .val (.long x) :: L) (.long x :: S) k n H Q := W_s (rfl : (pj lw).1 103 37 = some (.lload 7, 2, 0)) rfl rfl rfl
theorem w103_39 : W (pj lw) 103 39 L S k n H Q ↔ W (pj lw) 103 40 L (.long 0 :: S) k n H Q := W_s (rfl : (pj lw).1 103 39 = some (.lconst 0, 1, 0)) rfl rfl rfl
theorem w103_40 {x y : Int64} : W (pj lw) 103 40 L (.long y :: .long x :: S) k n H Q ↔ W (pj lw) 103 41 L (.int (Jvm.Free.XT.cmpL x y) :: S) k n H Q := W_s (rfl : (pj lw).1 103 40 = some (.lcmp, 1, 0)) rfl rfl rfl
theorem w103_41 {x : Int32} : W (pj lw) 103 41 L (.int x :: S) k n H Q ↔ (if x < 0 then W (pj lw) 103 53 L S k n H Q else W (pj lw) 103 44 L S k n H Q) := W_if_lt (rfl : (pj lw).1 103 41 = some (.ifCond .lt 12, 3, 0)) rfl
theorem w103_44 {x : Int64} {l0 l1 l2 l3 l4 l5 l6 : Slot} : W (pj lw) 103 44 (l0 :: l1 :: l2 :: l3 :: l4 :: l5 :: l6 :: .val (.long x) :: L) S k n H Q ↔ W (pj lw) 103 46 (l0 :: l1 :: l2 :: l3 :: l4 :: l5 :: l6 :: .val (.long x) :: L) (.long x :: S) k n H Q := W_s (rfl : (pj lw).1 103 44 = some (.lload 7, 2, 0)) rfl rfl rfl
theorem w103_46 : W (pj lw) 103 46 L S k n H Q ↔ W (pj lw) 103 49 L (.long 16 :: S) k n H Q := W_s (rfl : (pj lw).1 103 46 = some (.ldc2_w 38, 3, 16)) rfl rfl rfl
theorem w103_49 {x y : Int64} : W (pj lw) 103 49 L (.long y :: .long x :: S) k n H Q ↔ W (pj lw) 103 50 L (.int (Jvm.Free.XT.cmpL x y) :: S) k n H Q := W_s (rfl : (pj lw).1 103 49 = some (.lcmp, 1, 0)) rfl rfl rfl
theorem w103_50 {x : Int32} : W (pj lw) 103 50 L (.int x :: S) k n H Q ↔ (if 0 < x then W (pj lw) 103 53 L S k n H Q else W (pj lw) 103 55 L S k n H Q) := W_if_le (rfl : (pj lw).1 103 50 = some (.ifCond .le 5, 3, 0)) rfl
theorem w103_55 : W (pj lw) 103 55 L S k n H Q ↔ W (pj lw) 103 56 L (.long 0 :: S) k n H Q := W_s (rfl : (pj lw).1 103 55 = some (.lconst 0, 1, 0)) rfl rfl rfl
theorem w103_56uu {x : Int64} {l0 l1 l2 l3 l4 l5 l6 l7 l8 : Slot} : W (pj lw) 103 56 (l0 :: l1 :: l2 :: l3 :: l4 :: l5 :: l6 :: l7 :: l8 :: .unset :: .unset :: L) (.long x :: S) k n H Q ↔ W (pj lw) 103 58 (l0 :: l1 :: l2 :: l3 :: l4 :: l5 :: l6 :: l7 :: l8 :: .val (.long x) :: .second :: L) S k n H Q := W_lst (rfl : (pj lw).1 103 56 = some (.lstore 9, 2, 0)) rfl rfl rfl rfl
theorem w103_58 : W (pj lw) 103 58 L S k n H Q ↔ W (pj lw) 103 59 L (.int 0 :: S) k n H Q := W_s (rfl : (pj lw).1 103 58 = some (.iconst 0, 1, 0)) rfl rfl rfl
theorem w103_59 {x : Int32} {l0 l1 l2 l3 l4 l5 l6 l7 l8 l9 l10 : Slot} : W (pj lw) 103 59 (l0 :: l1 :: l2 :: l3 :: l4 :: l5 :: l6 :: l7 :: l8 :: l9 :: l10 :: .unset :: L) (.int x :: S) k n H Q ↔ W (pj lw) 103 61 (l0 :: l1 :: l2 :: l3 :: l4 :: l5 :: l6 :: l7 :: l8 :: l9 :: l10 :: .val (.int x) :: L) S k n H Q := W_ist (rfl : (pj lw).1 103 59 = some (.istore 11, 2, 0)) rfl rfl
theorem w103_61 {x : Int32} {l0 l1 l2 l3 l4 l5 l6 l7 l8 l9 l10 : Slot} : W (pj lw) 103 61 (l0 :: l1 :: l2 :: l3 :: l4 :: l5 :: l6 :: l7 :: l8 :: l9 :: l10 :: .val (.int x) :: L) S k n H Q ↔ W (pj lw) 103 63 (l0 :: l1 :: l2 :: l3 :: l4 :: l5 :: l6 :: l7 :: l8 :: l9 :: l10 :: .val (.int x) :: L) (.int x :: S) k n H Q := W_s (rfl : (pj lw).1 103 61 = some (.iload 11, 2, 0)) rfl rfl rfl
theorem w103_63 : W (pj lw) 103 63 L S k n H Q ↔ W (pj lw) 103 64 L (.int 3 :: S) k n H Q := W_s (rfl : (pj lw).1 103 63 = some (.iconst 3, 1, 0)) rfl rfl rfl
theorem w103_64 {x y : Int32} : W (pj lw) 103 64 L (.int y :: .int x :: S) k n H Q ↔ (if x < y then W (pj lw) 103 67 L S k n H Q else W (pj lw) 103 143 L S k n H Q) := W_icmp_ge (rfl : (pj lw).1 103 64 = some (.if_icmp .ge 79, 3, 0)) rfl
theorem w103_67 : W (pj lw) 103 67 L S k n H Q ↔ W (pj lw) 103 68 L (.int 0 :: S) k n H Q := W_s (rfl : (pj lw).1 103 67 = some (.iconst 0, 1, 0)) rfl rfl rfl
theorem w103_68i {y : Int32} {x : Int32} {l0 l1 l2 l3 l4 l5 l6 l7 l8 l9 l10 l11 : Slot} : W (pj lw) 103 68 (l0 :: l1 :: l2 :: l3 :: l4 :: l5 :: l6 :: l7 :: l8 :: l9 :: l10 :: l11 :: .val (.int y) :: L) (.int x :: S) k n H Q ↔ W (pj lw) 103 70 (l0 :: l1 :: l2 :: l3 :: l4 :: l5 :: l6 :: l7 :: l8 :: l9 :: l10 :: l11 :: .val (.int x) :: L) S k n H Q := W_ist (rfl : (pj lw).1 103 68 = some (.istore 12, 2, 0)) rfl rfl
theorem w103_68 {x : Int32} {l0 l1 l2 l3 l4 l5 l6 l7 l8 l9 l10 l11 : Slot} : W (pj lw) 103 68 (l0 :: l1 :: l2 :: l3 :: l4 :: l5 :: l6 :: l7 :: l8 :: l9 :: l10 :: l11 :: .unset :: L) (.int x :: S) k n H Q ↔ W (pj lw) 103 70 (l0 :: l1 :: l2 :: l3 :: l4 :: l5 :: l6 :: l7 :: l8 :: l9 :: l10 :: l11 :: .val (.int x) :: L) S k n H Q := W_ist (rfl : (pj lw).1 103 68 = some (.istore 12, 2, 0)) rfl rfl
theorem w103_70 {x : Int32} {l0 l1 l2 l3 l4 l5 l6 l7 l8 l9 l10 l11 : Slot} : W (pj lw) 103 70 (l0 :: l1 :: l2 :: l3 :: l4 :: l5 :: l6 :: l7 :: l8 :: l9 :: l10 :: l11 :: .val (.int x) :: L) S k n H Q ↔ W (pj lw) 103 72 (l0 :: l1 :: l2 :: l3 :: l4 :: l5 :: l6 :: l7 :: l8 :: l9 :: l10 :: l11 :: .val (.int x) :: L) (.int x :: S) k n H Q := W_s (rfl : (pj lw).1 103 70 = some (.iload 12, 2, 0)) rfl rfl rfl
theorem w103_72 : W (pj lw) 103 72 L S k n H Q ↔ W (pj lw) 103 74 L (.int 10 :: S) k n H Q := W_s (rfl : (pj lw).1 103 72 = some (.bipush 10, 2, 0)) rfl rfl rfl
theorem w103_74 {x y : Int32} : W (pj lw) 103 74 L (.int y :: .int x :: S) k n H Q ↔ (if x < y then W (pj lw) 103 77 L S k n H Q else W (pj lw) 103 137 L S k n H Q) := W_icmp_ge (rfl : (pj lw).1 103 74 = some (.if_icmp .ge 63, 3, 0)) rfl
theorem w103_77 {x : Nat} : W (pj lw) 103 77 (.val (.ref x) :: L) S k n H Q ↔ W (pj lw) 103 78 (.val (.ref x) :: L) (.ref x :: S) k n H Q := W_s (rfl : (pj lw).1 103 77 = some (.aload_n 0, 1, 0)) rfl rfl rfl
theorem w103_78 {x : Int32} {l0 l1 l2 l3 l4 l5 l6 l7 l8 l9 l10 : Slot} : W (pj lw) 103 78 (l0 :: l1 :: l2 :: l3 :: l4 :: l5 :: l6 :: l7 :: l8 :: l9 :: l10 :: .val (.int x) :: L) S k n H Q ↔ W (pj lw) 103 80 (l0 :: l1 :: l2 :: l3 :: l4 :: l5 :: l6 :: l7 :: l8 :: l9 :: l10 :: .val (.int x) :: L) (.int x :: S) k n H Q := W_s (rfl : (pj lw).1 103 78 = some (.iload 11, 2, 0)) rfl rfl rfl
theorem w103_80 {x : Int32} {l0 l1 l2 l3 l4 l5 l6 l7 l8 l9 l10 l11 : Slot} : W (pj lw) 103 80 (l0 :: l1 :: l2 :: l3 :: l4 :: l5 :: l6 :: l7 :: l8 :: l9 :: l10 :: l11 :: .val (.int x) :: L) S k n H Q ↔ W (pj lw) 103 82 (l0 :: l1 :: l2 :: l3 :: l4 :: l5 :: l6 :: l7 :: l8 :: l9 :: l10 :: l11 :: .val (.int x) :: L) (.int x :: S) k n H Q := W_s (rfl : (pj lw).1 103 80 = some (.iload 12, 2, 0)) rfl rfl rfl
theorem w103_82 {a : Nat} {x0 : Int32} {x1 : Int32} : W (pj lw) 103 82 L (.int x1 :: .int x0 :: .ref a :: S) k n H Q ↔ ((isO H a = true ∧ cs S + (4 + 11) + 14 ≤ 29) ∧ Cl (pj lw) 30 [.ref a, .int x0, .int x1] H (fun v H => W (pj lw) 103 85 L (v.toList ++ S) k n H Q)) := W_inst (as := [.int x0, .int x1]) (rfl : (pj lw).1 103 82 = some (.invokevirtual 40, 3, 30)) rfl rfl rfl (Nat.le_of_ble_eq_true rfl) (Nat.le_of_ble_eq_true rfl) ⟨rfl, rfl⟩
theorem w103_85i {y : Int32} {x : Int32} {l0 l1 l2 l3 l4 l5 l6 l7 l8 l9 l10 l11 l12 : Slot} : W (pj lw) 103 85 (l0 :: l1 :: l2 :: l3 :: l4 :: l5 :: l6 :: l7 :: l8 :: l9 :: l10 :: l11 :: l12 :: .val (.int y) :: L) (.int x :: S) k n H Q ↔ W (pj lw) 103 87 (l0 :: l1 :: l2 :: l3 :: l4 :: l5 :: l6 :: l7 :: l8 :: l9 :: l10 :: l11 :: l12 :: .val (.int x) :: L) S k n H Q := W_ist (rfl : (pj lw).1 103 85 = some (.istore 13, 2, 0)) rfl rfl
theorem w103_85 {x : Int32} {l0 l1 l2 l3 l4 l5 l6 l7 l8 l9 l10 l11 l12 : Slot} : W (pj lw) 103 85 (l0 :: l1 :: l2 :: l3 :: l4 :: l5 :: l6 :: l7 :: l8 :: l9 :: l10 :: l11 :: l12 :: .unset :: L) (.int x :: S) k n H Q ↔ W (pj lw) 103 87 (l0 :: l1 :: l2 :: l3 :: l4 :: l5 :: l6 :: l7 :: l8 :: l9 :: l10 :: l11 :: l12 :: .val (.int x) :: L) S k n H Q := W_ist (rfl : (pj lw).1 103 85 = some (.istore 13, 2, 0)) rfl rfl
theorem w103_87 {x : Int32} {l0 l1 l2 l3 l4 l5 l6 l7 l8 l9 l10 l11 l12 : Slot} : W (pj lw) 103 87 (l0 :: l1 :: l2 :: l3 :: l4 :: l5 :: l6 :: l7 :: l8 :: l9 :: l10 :: l11 :: l12 :: .val (.int x) :: L) S k n H Q ↔ W (pj lw) 103 89 (l0 :: l1 :: l2 :: l3 :: l4 :: l5 :: l6 :: l7 :: l8 :: l9 :: l10 :: l11 :: l12 :: .val (.int x) :: L) (.int x :: S) k n H Q := W_s (rfl : (pj lw).1 103 87 = some (.iload 13, 2, 0)) rfl rfl rfl
theorem w103_89 {x : Int32} : W (pj lw) 103 89 L (.int x :: S) k n H Q ↔ (if x < 0 then W (pj lw) 103 131 L S k n H Q else W (pj lw) 103 92 L S k n H Q) := W_if_lt (rfl : (pj lw).1 103 89 = some (.ifCond .lt 42, 3, 0)) rfl
theorem w103_92 {x : Int64} {l0 l1 l2 l3 l4 l5 l6 l7 l8 : Slot} : W (pj lw) 103 92 (l0 :: l1 :: l2 :: l3 :: l4 :: l5 :: l6 :: l7 :: l8 :: .val (.long x) :: L) S k n H Q ↔ W (pj lw) 103 94 (l0 :: l1 :: l2 :: l3 :: l4 :: l5 :: l6 :: l7 :: l8 :: .val (.long x) :: L) (.long x :: S) k n H Q := W_s (rfl : (pj lw).1 103 92 = some (.lload 9, 2, 0)) rfl rfl rfl
theorem w103_94 : W (pj lw) 103 94 L S k n H Q ↔ W (pj lw) 103 95 L (.long 1 :: S) k n H Q := W_s (rfl : (pj lw).1 103 94 = some (.lconst 1, 1, 0)) rfl rfl rfl
theorem w103_95 {x y : Int64} : W (pj lw) 103 95 L (.long y :: .long x :: S) k n H Q ↔ W (pj lw) 103 96 L (.long (x + y) :: S) k n H Q := W_s (rfl : (pj lw).1 103 95 = some (.ladd, 1, 0)) rfl rfl rfl
theorem w103_96j {x y : Int64} {l0 l1 l2 l3 l4 l5 l6 l7 l8 : Slot} : W (pj lw) 103 96 (l0 :: l1 :: l2 :: l3 :: l4 :: l5 :: l6 :: l7 :: l8 :: .val (.long y) :: .second :: L) (.long x :: S) k n H Q ↔ W (pj lw) 103 98 (l0 :: l1 :: l2 :: l3 :: l4 :: l5 :: l6 :: l7 :: l8 :: .val (.long x) :: .second :: L) S k n H Q := W_lst' (rfl : (pj lw).1 103 96 = some (.lstore 9, 2, 0)) rfl rfl
theorem w103_98 {x : Int32} {l0 l1 l2 l3 l4 l5 l6 l7 l8 l9 l10 l11 l12 : Slot} : W (pj lw) 103 98 (l0 :: l1 :: l2 :: l3 :: l4 :: l5 :: l6 :: l7 :: l8 :: l9 :: l10 :: l11 :: l12 :: .val (.int x) :: L) S k n H Q ↔ W (pj lw) 103 100 (l0 :: l1 :: l2 :: l3 :: l4 :: l5 :: l6 :: l7 :: l8 :: l9 :: l10 :: l11 :: l12 :: .val (.int x) :: L) (.int x :: S) k n H Q := W_s (rfl : (pj lw).1 103 98 = some (.iload 13, 2, 0)) rfl rfl rfl
theorem w103_100 : W (pj lw) 103 100 L S k n H Q ↔ W (pj lw) 103 101 L (.int 5 :: S) k n H Q := W_s (rfl : (pj lw).1 103 100 = some (.iconst 5, 1, 0)) rfl rfl rfl
theorem w103_101 {x y : Int32} : W (pj lw) 103 101 L (.int y :: .int x :: S) k n H Q ↔ (if y < x then W (pj lw) 103 104 L S k n H Q else W (pj lw) 103 106 L S k n H Q) := W_icmp_le (rfl : (pj lw).1 103 101 = some (.if_icmp .le 5, 3, 0)) rfl
theorem w103_106 {x : Nat} : W (pj lw) 103 106 (.val (.ref x) :: L) S k n H Q ↔ W (pj lw) 103 107 (.val (.ref x) :: L) (.ref x :: S) k n H Q := W_s (rfl : (pj lw).1 103 106 = some (.aload_n 0, 1, 0)) rfl rfl rfl
theorem w103_107 {x : Int32} {l0 l1 l2 l3 l4 l5 l6 l7 l8 l9 l10 : Slot} : W (pj lw) 103 107 (l0 :: l1 :: l2 :: l3 :: l4 :: l5 :: l6 :: l7 :: l8 :: l9 :: l10 :: .val (.int x) :: L) S k n H Q ↔ W (pj lw) 103 109 (l0 :: l1 :: l2 :: l3 :: l4 :: l5 :: l6 :: l7 :: l8 :: l9 :: l10 :: .val (.int x) :: L) (.int x :: S) k n H Q := W_s (rfl : (pj lw).1 103 107 = some (.iload 11, 2, 0)) rfl rfl rfl
theorem w103_109 {x : Int32} {l0 l1 l2 l3 l4 l5 l6 l7 l8 l9 l10 l11 : Slot} : W (pj lw) 103 109 (l0 :: l1 :: l2 :: l3 :: l4 :: l5 :: l6 :: l7 :: l8 :: l9 :: l10 :: l11 :: .val (.int x) :: L) S k n H Q ↔ W (pj lw) 103 111 (l0 :: l1 :: l2 :: l3 :: l4 :: l5 :: l6 :: l7 :: l8 :: l9 :: l10 :: l11 :: .val (.int x) :: L) (.int x :: S) k n H Q := W_s (rfl : (pj lw).1 103 109 = some (.iload 12, 2, 0)) rfl rfl rfl
theorem w103_111 {a : Nat} {x0 : Int32} {x1 : Int32} : W (pj lw) 103 111 L (.int x1 :: .int x0 :: .ref a :: S) k n H Q ↔ ((isO H a = true ∧ cs S + (4 + 11) + 14 ≤ 29) ∧ Cl (pj lw) 31 [.ref a, .int x0, .int x1] H (fun v H => W (pj lw) 103 114 L (v.toList ++ S) k n H Q)) := W_inst (as := [.int x0, .int x1]) (rfl : (pj lw).1 103 111 = some (.invokevirtual 44, 3, 31)) rfl rfl rfl (Nat.le_of_ble_eq_true rfl) (Nat.le_of_ble_eq_true rfl) ⟨rfl, rfl⟩
theorem w103_114i {y : Int32} {x : Int32} {l0 l1 l2 l3 l4 l5 l6 l7 l8 l9 l10 l11 l12 l13 : Slot} : W (pj lw) 103 114 (l0 :: l1 :: l2 :: l3 :: l4 :: l5 :: l6 :: l7 :: l8 :: l9 :: l10 :: l11 :: l12 :: l13 :: .val (.int y) :: L) (.int x :: S) k n H Q ↔ W (pj lw) 103 116 (l0 :: l1 :: l2 :: l3 :: l4 :: l5 :: l6 :: l7 :: l8 :: l9 :: l10 :: l11 :: l12 :: l13 :: .val (.int x) :: L) S k n H Q := W_ist (rfl : (pj lw).1 103 114 = some (.istore 14, 2, 0)) rfl rfl
theorem w103_114 {x : Int32} {l0 l1 l2 l3 l4 l5 l6 l7 l8 l9 l10 l11 l12 l13 : Slot} : W (pj lw) 103 114 (l0 :: l1 :: l2 :: l3 :: l4 :: l5 :: l6 :: l7 :: l8 :: l9 :: l10 :: l11 :: l12 :: l13 :: .unset :: L) (.int x :: S) k n H Q ↔ W (pj lw) 103 116 (l0 :: l1 :: l2 :: l3 :: l4 :: l5 :: l6 :: l7 :: l8 :: l9 :: l10 :: l11 :: l12 :: l13 :: .val (.int x) :: L) S k n H Q := W_ist (rfl : (pj lw).1 103 114 = some (.istore 14, 2, 0)) rfl rfl
theorem w103_116 {x : Int32} {l0 l1 l2 l3 l4 l5 l6 l7 l8 l9 l10 l11 l12 l13 : Slot} : W (pj lw) 103 116 (l0 :: l1 :: l2 :: l3 :: l4 :: l5 :: l6 :: l7 :: l8 :: l9 :: l10 :: l11 :: l12 :: l13 :: .val (.int x) :: L) S k n H Q ↔ W (pj lw) 103 118 (l0 :: l1 :: l2 :: l3 :: l4 :: l5 :: l6 :: l7 :: l8 :: l9 :: l10 :: l11 :: l12 :: l13 :: .val (.int x) :: L) (.int x :: S) k n H Q := W_s (rfl : (pj lw).1 103 116 = some (.iload 14, 2, 0)) rfl rfl rfl
theorem w103_118 {x : Int32} : W (pj lw) 103 118 L (.int x :: S) k n H Q ↔ (if x < 0 then W (pj lw) 103 129 L S k n H Q else W (pj lw) 103 121 L S k n H Q) := W_if_lt (rfl : (pj lw).1 103 118 = some (.ifCond .lt 11, 3, 0)) rfl
theorem w103_121 {x : Int32} {l0 l1 l2 l3 l4 l5 l6 l7 l8 l9 l10 l11 l12 l13 : Slot} : W (pj lw) 103 121 (l0 :: l1 :: l2 :: l3 :: l4 :: l5 :: l6 :: l7 :: l8 :: l9 :: l10 :: l11 :: l12 :: l13 :: .val (.int x) :: L) S k n H Q ↔ W (pj lw) 103 123 (l0 :: l1 :: l2 :: l3 :: l4 :: l5 :: l6 :: l7 :: l8 :: l9 :: l10 :: l11 :: l12 :: l13 :: .val (.int x) :: L) (.int x :: S) k n H Q := W_s (rfl : (pj lw).1 103 121 = some (.iload 14, 2, 0)) rfl rfl rfl
theorem w103_123 {x : Int32} : W (pj lw) 103 123 L (.int x :: S) k n H Q ↔ W (pj lw) 103 124 L (.long x.toInt64 :: S) k n H Q := W_s (rfl : (pj lw).1 103 123 = some (.i2l, 1, 0)) rfl rfl rfl
theorem w103_124 {x : Int64} {l0 : Slot} : W (pj lw) 103 124 (l0 :: .val (.long x) :: L) S k n H Q ↔ W (pj lw) 103 125 (l0 :: .val (.long x) :: L) (.long x :: S) k n H Q := W_s (rfl : (pj lw).1 103 124 = some (.lload_n 1, 1, 0)) rfl rfl rfl
theorem w103_125 {x y : Int64} : W (pj lw) 103 125 L (.long y :: .long x :: S) k n H Q ↔ W (pj lw) 103 126 L (.int (Jvm.Free.XT.cmpL x y) :: S) k n H Q := W_s (rfl : (pj lw).1 103 125 = some (.lcmp, 1, 0)) rfl rfl rfl
theorem w103_126 {x : Int32} : W (pj lw) 103 126 L (.int x :: S) k n H Q ↔ (if x < 0 then W (pj lw) 103 131 L S k n H Q else W (pj lw) 103 129 L S k n H Q) := W_if_lt (rfl : (pj lw).1 103 126 = some (.ifCond .lt 5, 3, 0)) rfl
theorem w103_131 {x : Int32} {l0 l1 l2 l3 l4 l5 l6 l7 l8 l9 l10 l11 : Slot} : W (pj lw) 103 131 (l0 :: l1 :: l2 :: l3 :: l4 :: l5 :: l6 :: l7 :: l8 :: l9 :: l10 :: l11 :: .val (.int x) :: L) S k n H Q ↔ W (pj lw) 103 134 (l0 :: l1 :: l2 :: l3 :: l4 :: l5 :: l6 :: l7 :: l8 :: l9 :: l10 :: l11 :: .val (.int (x + 1)) :: L) S k n H Q := W_s (rfl : (pj lw).1 103 131 = some (.iinc 12 1, 3, 0)) rfl rfl rfl
theorem w103_134 : W (pj lw) 103 134 L S k n H Q ↔ W (pj lw) 103 70 L S k n H Q := W_goto (rfl : (pj lw).1 103 134 = some (.goto (-64), 3, 0)) rfl
theorem w103_137 {x : Int32} {l0 l1 l2 l3 l4 l5 l6 l7 l8 l9 l10 : Slot} : W (pj lw) 103 137 (l0 :: l1 :: l2 :: l3 :: l4 :: l5 :: l6 :: l7 :: l8 :: l9 :: l10 :: .val (.int x) :: L) S k n H Q ↔ W (pj lw) 103 140 (l0 :: l1 :: l2 :: l3 :: l4 :: l5 :: l6 :: l7 :: l8 :: l9 :: l10 :: .val (.int (x + 1)) :: L) S k n H Q := W_s (rfl : (pj lw).1 103 137 = some (.iinc 11 1, 3, 0)) rfl rfl rfl
theorem w103_140 : W (pj lw) 103 140 L S k n H Q ↔ W (pj lw) 103 61 L S k n H Q := W_goto (rfl : (pj lw).1 103 140 = some (.goto (-79), 3, 0)) rfl
theorem w103_143 {x : Int64} {l0 l1 l2 l3 l4 l5 l6 l7 l8 : Slot} : W (pj lw) 103 143 (l0 :: l1 :: l2 :: l3 :: l4 :: l5 :: l6 :: l7 :: l8 :: .val (.long x) :: L) S k n H Q ↔ W (pj lw) 103 145 (l0 :: l1 :: l2 :: l3 :: l4 :: l5 :: l6 :: l7 :: l8 :: .val (.long x) :: L) (.long x :: S) k n H Q := W_s (rfl : (pj lw).1 103 143 = some (.lload 9, 2, 0)) rfl rfl rfl
theorem w103_145 {x : Int64} {l0 l1 l2 : Slot} : W (pj lw) 103 145 (l0 :: l1 :: l2 :: .val (.long x) :: L) S k n H Q ↔ W (pj lw) 103 146 (l0 :: l1 :: l2 :: .val (.long x) :: L) (.long x :: S) k n H Q := W_s (rfl : (pj lw).1 103 145 = some (.lload_n 3, 1, 0)) rfl rfl rfl
theorem w103_146 {x y : Int64} : W (pj lw) 103 146 L (.long y :: .long x :: S) k n H Q ↔ W (pj lw) 103 147 L (.int (Jvm.Free.XT.cmpL x y) :: S) k n H Q := W_s (rfl : (pj lw).1 103 146 = some (.lcmp, 1, 0)) rfl rfl rfl
theorem w103_147 {x : Int32} : W (pj lw) 103 147 L (.int x :: S) k n H Q ↔ (if x = 0 then W (pj lw) 103 150 L S k n H Q else W (pj lw) 103 154 L S k n H Q) := W_if_ne (rfl : (pj lw).1 103 147 = some (.ifCond .ne 7, 3, 0)) rfl
theorem w103_150 : W (pj lw) 103 150 L S k n H Q ↔ W (pj lw) 103 151 L (.int 1 :: S) k n H Q := W_s (rfl : (pj lw).1 103 150 = some (.iconst 1, 1, 0)) rfl rfl rfl
theorem w103_151 : W (pj lw) 103 151 L S k n H Q ↔ W (pj lw) 103 155 L S k n H Q := W_goto (rfl : (pj lw).1 103 151 = some (.goto 4, 3, 0)) rfl
theorem w103_155 {x : Int32} : W (pj lw) 103 155 L (.int x :: S) k n H Q ↔ ((x = 0 ∨ x = 1) ∧ Q (some (.int x)) H) := W_rz (rfl : (pj lw).1 103 155 = some (.ireturn, 1, 0)) rfl
end LPc
section X6
variable {H : AH} {p q : Nat} {s s' : St} {Q : Option Value → AH → Prop} {k n : Nat} {x y z w : Int32} {B : Int}
def okS (l : Slot) : Prop := l = .unset ∨ ∃ v, l = .val (.int v)
set_option maxRecDepth 100000 in
theorem l103c (hE : Ev s) (hC : CI s B) (hB : B < 1000000000) (h2 : sI s 2 = 5) (hN : nl s = 3) (hL : ln s = 10) (l : Int32) (hl : 0 ≤ l.toInt ∧ l.toInt < 3) {pr ex qq : Int64} (m : Nat) : ∀ (i : Int32) (t : Int64) (l13 l14 : Slot), okS l13 → okS l14 → i.toInt = 10 - m → 0 ≤ i.toInt →
    (∀ l13 l14, okS l13 → okS l14 → W (pj lw) 103 137 [.val (.ref p), .val (.long (sJ s 13)), .second, .val (.long pr), .second, .val (.long ex), .second, .val (.long qq), .second, .val (.long (t + Int64.ofNat (cnt (oc s) (l.toInt.toNat * 128 + i.toInt.toNat) m))), .second, .val (.int l), .val (.int 10), l13, l14] [] k n (ob H p s) Q) →
    W (pj lw) 103 70 [.val (.ref p), .val (.long (sJ s 13)), .second, .val (.long pr), .second, .val (.long ex), .second, .val (.long qq), .second, .val (.long t), .second, .val (.int l), .val (.int i), l13, l14] [] k n (ob H p s) Q := by
  induction m with
  | zero =>
    intro i t l13 l14 h13 h14 hi h0 hQ
    have h1 : ¬ i < 10 := by rw [lt32]; simp only [Int32.reduceToInt]; omega
    have e : i = 10 := by rw [eq32]; simp only [Int32.reduceToInt]; omega
    have key := hQ l13 l14 h13 h14
    rw [cnt, ofn64z] at key
    rw [w103_70]; simp +decide only [w103_72, w103_74, ↓reduceIte, h1]
    rw [e]; exact key
  | succ m ih =>
    intro i t l13 l14 h13 h14 hi h0 hQ
    have h1 : i < 10 := by rw [lt32]; simp only [Int32.reduceToInt]; omega
    have h3 : (i + 1).toInt = i.toInt + 1 := ia (by simp only [Int32.reduceToInt]; omega) (by simp only [Int32.reduceToInt]; omega)
    have hN' := hE.2.1; have hL' := hE.1
    unfold nl at hN; unfold ln at hL
    have hv : vdc s l i := ⟨by rw [lt32]; simp only [Int32.reduceToInt]; omega, by rw [lt32]; omega, by rw [lt32]; simp only [Int32.reduceToInt]; omega, by rw [lt32]; omega⟩
    have key := fun t l13 l14 h13 h14 => ih (i + 1) t l13 l14 h13 h14 (by omega) (by omega)
    rw [show (i + 1).toInt.toNat = i.toInt.toNat + 1 by omega] at key
    rw [cnt] at hQ
    rw [w103_70]
    rcases cell_sp (a := l) (b := i) hE hC hB with ⟨e1, e2, e3⟩ | ⟨e1, e2, e3, e4, e5, e6, -, -⟩
    · have ho : oc s (l.toInt.toNat * 128 + i.toInt.toNat) = false := by
        cases z : oc s (l.toInt.toNat * 128 + i.toInt.toNat)
        · rfl
        · exact absurd ⟨hv, z⟩ e3
      rw [ho] at hQ; simp only [Bool.false_eq_true, if_false, Nat.zero_add] at hQ
      have := key t (.val (.int (-1))) l14 (Or.inr ⟨_, rfl⟩) h14 hQ
      rcases h13 with rfl | ⟨v, rfl⟩ <;> simp +decide only [w103_72, w103_74, w103_77, w103_78, w103_80, w103_82, w103_85i, w103_85, w103_87, w103_89, w103_131, w103_134, isO_put, Option.toList_some, List.cons_append, List.nil_append, true_and, and_true, ↓reduceIte, h1, t30 hE, e1] <;> exact this
    · rw [e6] at hQ; simp only [if_true] at hQ
      have h5 : ¬ 5 < cSp s l i := by rw [lt32]; rw [h2] at e2; simp only [Int32.reduceToInt] at e2 ⊢; omega
      have := key (t + 1) (.val (.int (cSp s l i))) (.val (.int (cId s l i))) (Or.inr ⟨_, rfl⟩) (Or.inr ⟨_, rfl⟩) (fun l13 l14 h13 h14 => by
        have := hQ l13 l14 h13 h14
        rw [← ofn64] at this; exact this)
      rcases h13 with rfl | ⟨v, rfl⟩ <;> rcases h14 with rfl | ⟨v, rfl⟩ <;> simp +decide only [w103_72, w103_74, w103_77, w103_78, w103_80, w103_82, w103_85i, w103_85, w103_87, w103_89, w103_92, w103_94, w103_95, w103_96j, w103_98, w103_100, w103_101, w103_106, w103_107, w103_109, w103_111, w103_114i, w103_114, w103_116, w103_118, w103_121, w103_123, w103_124, w103_125, w103_126, w103_131, w103_134, isO_put, cmpL_lt, Option.toList_some, List.cons_append, List.nil_append, true_and, and_true, ↓reduceIte, h1, t30 hE, t31 hE, e1, h5, e3, e4] <;> exact this
theorem lanes (hC : CI s B) (hN : nl s = 3) (hL : ln s = 10) : cnt (oc s) 0 10 + cnt (oc s) 128 10 + cnt (oc s) 256 10 = cnt (oc s) 0 384 := by
  have a0 := cnt_lane (l := 0) hC.1 (by omega)
  have a1 := cnt_lane (l := 1) hC.1 (by omega)
  have a2 := cnt_lane (l := 2) hC.1 (by omega)
  rw [hL] at a0 a1 a2
  have b1 := cnt_split (f := oc s) 128 10 0
  have b2 := cnt_split (f := oc s) 256 10 0
  simp only [Nat.reduceAdd, Nat.reduceMul, Nat.zero_add, Nat.zero_mul, Nat.one_mul] at a0 a1 a2 b1 b2
  omega
set_option maxRecDepth 100000 in
theorem s103 (hE : Ev s) (hC : CI s B) (hB : B < 1000000000) (h2 : sI s 2 = 5) (hN : nl s = 3) (hL : ln s = 10) (hQ : Q (some (.int 1)) (ob H p s)) : Cl (pj lw) 103 [.ref p] (ob H p s) Q := by
  have hc := cnt384 (s := s)
  have z16 : (16 : Int64).toInt = 16 := by decide
  have z0 : (0 : Int64).toInt = 0 := by decide
  have e22 := hE.2.2.2.2.1
  have e12 : ((sI s 12).toInt64).toInt = (sI s 12).toInt := Int32.toInt_toInt64 _
  have f22 : ((sI s 22).toInt64).toInt = (sI s 22).toInt := Int32.toInt_toInt64 _
  obtain ⟨c1, c2, c3, c4, c5, c6, c7⟩ := id hC
  have s2 : stat s 2 = sJ s 13 := rfl
  have s1 : stat s 1 = (sI s 12).toInt64 := rfl
  have s3 : stat s 3 = sJ s 14 := rfl
  have s4 : stat s 4 = (sI s 22).toInt64 := rfl
  have g1 : sJ s 13 = (sI s 12).toInt64 + sJ s 14 := by rw [eq64, ja (by rw [e12]; omega) (by rw [e12]; omega), e12]; exact c3
  have g2 : ¬ (sI s 22).toInt64 < 0 := by rw [lt64, f22, z0]; omega
  have g3 : ¬ 16 < (sI s 22).toInt64 := by rw [lt64, f22, z16]; omega
  have hlan := lanes hC hN hL
  have fin : (0 : Int64) + Int64.ofNat (cnt (oc s) 0 10) + Int64.ofNat (cnt (oc s) 128 10) + Int64.ofNat (cnt (oc s) 256 10) = (sI s 12).toInt64 := by
    rw [ofn64, ofn64, ← Nat.add_assoc, hlan, Int64.zero_add, eq64, Int64.toInt_ofNat_of_lt (by omega), e12, c2]
  have nlt : ∀ a b : Int64, a = b → Jvm.Free.XT.cmpL a b = 0 := fun a b h => cmpL_eq.mpr h
  rw [c103]
  simp +decide only [w103_0, w103_1, w103_2, w103_5uu, w103_6, w103_7, w103_8, w103_11uu, w103_12, w103_13, w103_14, w103_17uu, w103_19, w103_20, w103_21, w103_24uu, w103_26, w103_27, w103_28, w103_30, w103_31, w103_32, w103_37, w103_39, w103_40, w103_41, w103_44, w103_46, w103_49, w103_50, w103_55, w103_56uu, w103_58, w103_59, isO_put, cmpL_lt, cmpL_gt, cmpL_eq, Option.toList_some, List.cons_append, List.nil_append, true_and, and_true, ↓reduceIte, t34, s1, s2, s3, s4, ← g1, g2, g3]
  rw [w103_61]; simp +decide only [w103_63, w103_64, w103_67, w103_68, ↓reduceIte]
  refine l103c hE hC hB h2 hN hL 0 (by decide) 10 0 _ .unset .unset (Or.inl rfl) (Or.inl rfl) (by decide) (by decide) (fun l13 l14 h13 h14 => ?_)
  simp +decide only [w103_137, w103_140, Nat.reduceAdd, Int32.reduceAdd, Int64.reduceAdd, Int32.reduceToInt]
  rw [w103_61]; simp +decide only [w103_63, w103_64, w103_67, w103_68i, ↓reduceIte]
  refine l103c hE hC hB h2 hN hL 1 (by decide) 10 0 _ l13 l14 h13 h14 (by decide) (by decide) (fun l13 l14 h13 h14 => ?_)
  simp +decide only [w103_137, w103_140, Nat.reduceAdd, Int32.reduceAdd, Int64.reduceAdd, Int32.reduceToInt]
  rw [w103_61]; simp +decide only [w103_63, w103_64, w103_67, w103_68i, ↓reduceIte]
  refine l103c hE hC hB h2 hN hL 2 (by decide) 10 0 _ l13 l14 h13 h14 (by decide) (by decide) (fun l13 l14 h13 h14 => ?_)
  simp +decide only [w103_137, w103_140, Nat.reduceAdd, Int32.reduceAdd, Int64.reduceAdd, Int32.reduceToInt]
  rw [w103_61]; simp +decide only [w103_63, w103_64, ↓reduceIte]
  simp only [Int32.reduceToInt, Int.toNat_zero, Nat.zero_mul, Nat.add_zero, Int.reduceToNat, Nat.one_mul, Nat.reduceMul]
  rw [fin]
  simp +decide only [w103_143, w103_145, w103_146, w103_147, w103_150, w103_151, w103_155, cmpL_eq, true_and, ↓reduceIte]
  exact hQ
def In6 (s : St) (B : Int) : Prop := Ev s ∧ CI s B ∧ sI s 2 = 5 ∧ sI s 1 = 3 ∧ sI s 0 = 10
theorem In6.nl (h : In6 s B) : nl s = 3 := by unfold Pj.nl; rw [h.2.2.2.1]; rfl
theorem In6.ln (h : In6 s B) : ln s = 10 := by unfold Pj.ln; rw [h.2.2.2.2]; rfl
theorem In_of (h : In6 s B) {B' : Int} (hE : Ev s') (hC : CI s' B') (h2 : sI s' 2 = sI s 2) (h1 : sI s' 1 = sI s 1) (h0 : sI s' 0 = sI s 0) : In6 s' B' := ⟨hE, hC, h2.trans h.2.2.1, h1.trans h.2.2.2.1, h0.trans h.2.2.2.2⟩
set_option maxRecDepth 100000 in
set_option maxHeartbeats 1000000 in
theorem lp {a len : Nat} {f : Nat → Int32} {c : Nat} (ha : a < p) (hl : len ≤ 260) (m : Nat) : ∀ (i : Int32) (s : St), In6 s (20 * i.toInt) → 0 ≤ i.toInt → i.toInt ≤ len + 5 → len + 5 ≤ i.toInt + m →
    W (pj lw) 100 16 [.val (.ref a), .val (.ref p), .val (.int i), .unset, .unset, .unset, .unset, .unset] [] k n (ob (H1 c a len f) p s) (fun v _ => v = some (.int 1)) := by
  have hlen : (len.toInt32).toInt = len := len32 (by omega)
  induction m with
  | zero =>
    intro i s hI h0 h4 hm
    obtain ⟨y1, y2, y3, y4⟩ := sc1 (cc := c) (len := len) (f := f) (s := s) ha
    have h5 : (i + 5).toInt = i.toInt + 5 := ia (by simp only [Int32.reduceToInt]; omega) (by simp only [Int32.reduceToInt]; omega)
    have hlt : len.toInt32 < i + 5 := by rw [lt32]; omega
    rw [w100_16]; simp +decide only [w100_17, w100_18, w100_19, w100_20, w100_21, w100_152, w100_153, and_true, ↓reduceIte, y1, y2, hlt]
  | succ m ih =>
    intro i s hI h0 h4 hm
    have h1 : (i + 1).toInt = i.toInt + 1 := ia (by simp only [Int32.reduceToInt]; omega) (by simp only [Int32.reduceToInt]; omega)
    have h2 : (i + 2).toInt = i.toInt + 2 := ia (by simp only [Int32.reduceToInt]; omega) (by simp only [Int32.reduceToInt]; omega)
    have h3 : (i + 3).toInt = i.toInt + 3 := ia (by simp only [Int32.reduceToInt]; omega) (by simp only [Int32.reduceToInt]; omega)
    have h4' : (i + 4).toInt = i.toInt + 4 := ia (by simp only [Int32.reduceToInt]; omega) (by simp only [Int32.reduceToInt]; omega)
    have h5 : (i + 5).toInt = i.toInt + 5 := ia (by simp only [Int32.reduceToInt]; omega) (by simp only [Int32.reduceToInt]; omega)
    obtain ⟨y1, y2, y3, y4⟩ := sc1 (cc := c) (len := len) (f := f) (s := s) ha
    by_cases hlt : len.toInt32 < i + 5
    · rw [w100_16]; simp +decide only [w100_17, w100_18, w100_19, w100_20, w100_21, w100_152, w100_153, and_true, ↓reduceIte, y1, y2, hlt]
    have hb : i.toInt + 5 ≤ len := by rw [lt32] at hlt; omega
    have j0 : 0 ≤ i.toInt ∧ i.toInt < (len : Int) := by omega
    have j1 : 0 ≤ (i + 1).toInt ∧ (i + 1).toInt < (len : Int) := by omega
    have j2 : 0 ≤ (i + 2).toInt ∧ (i + 2).toInt < (len : Int) := by omega
    have j3 : 0 ≤ (i + 3).toInt ∧ (i + 3).toInt < (len : Int) := by omega
    have j4 : 0 ≤ (i + 4).toInt ∧ (i + 4).toInt < (len : Int) := by omega
    have key : ∀ (s' : St) (l3 l4 l5 l6 l7 : Slot), In6 s' (20 * i.toInt + 16) → cat1 l3 = true → cat1 l4 = true → cat1 l5 = true → cat1 l6 = true → cat1 l7 = true →
        W (pj lw) 100 137 [.val (.ref a), .val (.ref p), .val (.int i), l3, l4, l5, l6, l7] [] k n (ob (H1 c a len f) p s') (fun v _ => v = some (.int 1)) := by
      intro s' l3 l4 l5 l6 l7 hI' c3 c4 c5 c6 c7
      simp +decide only [w100_137, w100_138, true_and]
      refine s103 hI'.1 hI'.2.1 (by omega) hI'.2.2.1 hI'.nl hI'.ln ?_
      simp +decide only [w100_141, w100_146, w100_149, Option.toList_some, List.cons_append, List.nil_append, ↓reduceIte]
      exact W_fg (lel_cons <| lel_cons <| lel_cons <| lel_un c3 <| lel_un c4 <| lel_un c5 <| lel_un c6 <| lel_un c7 lel_refl) (ih (i + 5) s' ⟨hI'.1, hI'.2.1.le (by omega), hI'.2.2⟩ (by omega) (by omega) (by omega))
    clear ih
    rw [w100_16]; simp +decide only [w100_17, w100_18, w100_19, w100_20, w100_21, w100_24, w100_25, w100_26, w100_27, w100_28, w100_29, w100_30, w100_31, w100_32, w100_33, w100_34, w100_35, w100_37, w100_38, w100_39, w100_40, w100_41, w100_42, w100_44, w100_45, w100_46, w100_47, w100_48, w100_49, w100_51, w100_52, w100_53, w100_54, w100_55, w100_56, true_and, and_true, ↓reduceIte, y1, y2, y3, y4, hlt, j0, j1, j2, j3, j4]
    generalize f i.toNatClampNeg &&& 3 = op
    generalize f (i + 1).toNatClampNeg = x
    generalize f (i + 2).toNatClampNeg = y
    generalize f (i + 3).toNatClampNeg = z
    generalize f (i + 4).toNatClampNeg = w
    have hC := hI.2.1
    by_cases e0 : op = 0
    · simp +decide only [w100_58, w100_59, w100_62, w100_63, w100_65, w100_67, w100_69, w100_71, w100_74, w100_75, isO_put, Option.toList_some, List.cons_append, List.nil_append, true_and, and_true, ↓reduceIte, e0, t2]
      exact key _ _ _ _ _ _ (In_of hI (Ev_cf hI.1) ((CI_cf hC).le (by omega)) (cf_I (by decide)) (cf_I (by decide)) (cf_I (by decide))) rfl rfl rfl rfl rfl
    by_cases e1 : op = 1
    · have P : ∀ u : Int32, (u = 0 ∨ u = 1) → In6 (plS s x y z u) (20 * i.toInt + 16) := fun u hu => by
        obtain ⟨q1, q2⟩ := Ev_pl (a := x) (b := y) (c := z) hI.1 hu
        exact In_of hI q1 ((CI_pl hI.1 hC (by omega)).le (by omega)) (q2 2 (by decide)) (q2 1 (by decide)) (q2 0 (by decide))
      by_cases ew : w = 0
      · have T5 := fun (Q : Option Value → AH → Prop) => t5 (lw := lw) (H := H1 c a len f) (p := p) (Q := Q) (a := x) (b := y) (c := z) (d := 0) hI.1 (Or.inl rfl)
        simp +decide only [w100_58, w100_59, w100_78, w100_79, w100_80, w100_83, w100_84, w100_86, w100_88, w100_90, w100_92, w100_99, w100_100, w100_103, w100_104, isO_put, Option.toList_some, List.cons_append, List.nil_append, true_and, and_true, ↓reduceIte, e1, ew, T5]
        exact key _ _ _ _ _ _ (P 0 (Or.inl rfl)) rfl rfl rfl rfl rfl
      · have T5 := fun (Q : Option Value → AH → Prop) => t5 (lw := lw) (H := H1 c a len f) (p := p) (Q := Q) (a := x) (b := y) (c := z) (d := 1) hI.1 (Or.inr rfl)
        simp +decide only [w100_58, w100_59, w100_78, w100_79, w100_80, w100_83, w100_84, w100_86, w100_88, w100_90, w100_92, w100_95, w100_96, w100_100, w100_103, w100_104, isO_put, Option.toList_some, List.cons_append, List.nil_append, true_and, and_true, ↓reduceIte, e1, ew, T5]
        exact key _ _ _ _ _ _ (P 1 (Or.inr rfl)) rfl rfl rfl rfl rfl
    by_cases e2 : op = 2
    · have P : ∀ u : Int32, (u = 0 ∨ u = 1) → In6 (quS s u) (20 * i.toInt + 16) := fun u hu => by
        obtain ⟨q1, q2⟩ := Ev_qu (a := u) hI.1 hu
        exact In_of hI q1 ((CI_qu hC).le (by omega)) (q2 2 (by decide)) (q2 1 (by decide)) (q2 0 (by decide))
      by_cases ew : x = 0
      · have T7 := fun (Q : Option Value → AH → Prop) => t7 (lw := lw) (H := H1 c a len f) (p := p) (Q := Q) (a := 0) hI.1 (Or.inl rfl)
        simp +decide only [w100_58, w100_59, w100_78, w100_79, w100_80, w100_107, w100_108, w100_109, w100_112, w100_113, w100_115, w100_122, w100_123, w100_126, w100_127, isO_put, Option.toList_some, List.cons_append, List.nil_append, true_and, and_true, ↓reduceIte, e2, ew, T7]
        exact key _ _ _ _ _ _ (P 0 (Or.inl rfl)) rfl rfl rfl rfl rfl
      · have T7 := fun (Q : Option Value → AH → Prop) => t7 (lw := lw) (H := H1 c a len f) (p := p) (Q := Q) (a := 1) hI.1 (Or.inr rfl)
        simp +decide only [w100_58, w100_59, w100_78, w100_79, w100_80, w100_107, w100_108, w100_109, w100_112, w100_113, w100_115, w100_118, w100_119, w100_123, w100_126, w100_127, isO_put, Option.toList_some, List.cons_append, List.nil_append, true_and, and_true, ↓reduceIte, e2, ew, T7]
        exact key _ _ _ _ _ _ (P 1 (Or.inr rfl)) rfl rfl rfl rfl rfl
    · simp +decide only [w100_58, w100_59, w100_78, w100_79, w100_80, w100_107, w100_108, w100_109, w100_130, w100_131, w100_133, isO_put, true_and, and_true, ↓reduceIte, e0, e1, e2]
      refine t8 hI.1 ?_
      simp +decide only [w100_136, Option.toList_some, List.cons_append, List.nil_append]
      exact key _ _ _ _ _ _ (In_of hI (Ev_st hI.1) (CI_st hI.1 hC (by omega)) (st_I hI.1 (by decide)) (st_I hI.1 (by decide)) (st_I hI.1 (by decide))) rfl rfl rfl rfl rfl
theorem H1_c {c N a len : Nat} {f : Nat → Int32} : (c, (H1 N a len f).2) = H1 c a len f := rfl
theorem In_ini : In6 (ini0 10 3 5 7) 0 := by
  have i0 : sI (ini0 10 3 5 7) 0 = cl 8 128 10 ∧ sI (ini0 10 3 5 7) 1 = cl 2 3 3 ∧ sI (ini0 10 3 5 7) 2 = cl 1 5 5 := by simp +decide only []
  exact ⟨Ev_ini, CI_ini, i0.2.2.trans (by decide), i0.2.1.trans (by decide), i0.1.trans (by decide)⟩
set_option maxRecDepth 100000 in
theorem law_ok (N a len : Nat) (f : Nat → Int32) (ha : a < N) (hl : len ≤ 260) : Cl (pj lw) 100 [.ref a] (H1 N a len f) (fun v _ => v = some (.int 1)) := by
  rw [c100]
  have e1 : (H1 N a len f).1 = N := rfl
  simp +decide only [w100_0, w100_3, w100_4, w100_6, w100_7, w100_8, w100_10, w100_13, w100_14, w100_15, isO_put, cs_nil, cs_ref, Option.toList_none, List.nil_append, true_and, and_true, Nat.reduceAdd, Nat.reduceLeDiff, Int32.reduceAdd, Int64.reduceAdd, Nat.add_zero, Nat.zero_add, mkO_ob, t1, e1]
  simp only [H1_c]
  exact lp (p := N) ha hl (len + 5) 0 _ In_ini (by decide) (by simp only [Int32.reduceToInt]; omega) (by simp only [Int32.reduceToInt]; omega)
end X6

end Jvm.JX.Lw
namespace Jvm.Pilot.@@N@@
open Jvm Jvm.ClassFile Sem Op Lib Jvm.Free Jvm.Stand Jvm.LawKit Jvm.RoadKit Bundle Jvm.Pilot.@@N@@.Jvm.D Jvm.JX Jvm.JX.Pj Jvm.JX.Lw
def nmL : List (Nat × MethodName) := [(1, ⟨"RingRoadCA", "<init>", "(IIII)V"⟩), (2, ⟨"RingRoadCA", "configure", "(IIII)Z"⟩), (3, ⟨"RingRoadCA", "cfgSignal", "(III)Z"⟩), (4, ⟨"RingRoadCA", "cfgDetector", "(II)Z"⟩), (5, ⟨"RingRoadCA", "place", "(IIIZ)Z"⟩), (6, ⟨"RingRoadCA", "putVehicle", "(IIZ)V"⟩), (7, ⟨"RingRoadCA", "queueRamp", "(Z)Z"⟩), (8, ⟨"RingRoadCA", "step", "(I)I"⟩), (9, ⟨"RingRoadCA", "oneStep", "()V"⟩), (10, ⟨"RingRoadCA", "isRed", "()Z"⟩), (11, ⟨"RingRoadCA", "clamp", "(III)I"⟩), (12, ⟨"RingRoadCA", "wrap", "(I)I"⟩), (13, ⟨"RingRoadCA", "draw", "()I"⟩), (14, ⟨"RingRoadCA", "blocked", "(II)Z"⟩), (15, ⟨"RingRoadCA", "gap", "(II)I"⟩), (16, ⟨"RingRoadCA", "safeBehind", "(II)Z"⟩), (17, ⟨"RingRoadCA", "changeLanes", "()V"⟩), (18, ⟨"RingRoadCA", "decideLane", "(II)V"⟩), (19, ⟨"RingRoadCA", "candGap", "(III)I"⟩), (20, ⟨"RingRoadCA", "applyLane", "(II)V"⟩), (21, ⟨"RingRoadCA", "computeSpeeds", "()V"⟩), (22, ⟨"RingRoadCA", "speedOf", "(II)V"⟩), (23, ⟨"RingRoadCA", "moveAll", "()V"⟩), (24, ⟨"RingRoadCA", "moveOne", "(II)V"⟩), (25, ⟨"RingRoadCA", "exitPoint", "(III)I"⟩), (26, ⟨"RingRoadCA", "countPath", "(II)V"⟩), (27, ⟨"RingRoadCA", "merge", "()V"⟩), (28, ⟨"RingRoadCA", "sample", "()V"⟩), (29, ⟨"RingRoadCA", "validCell", "(II)Z"⟩), (30, ⟨"RingRoadCA", "cellSpeed", "(II)I"⟩), (31, ⟨"RingRoadCA", "cellId", "(II)I"⟩), (34, ⟨"RingRoadCA", "stat", "(I)J"⟩), (100, ⟨"RingRoadCAL4", "law", "([I)Z"⟩), (103, ⟨"RingRoadCAL4", "ok", "(LRingRoadCA;)Z"⟩)]
def nm (m : Nat) : MethodName := (nmL.lookup m).getD ⟨"", "", ""⟩
def btL : List (Nat × ByteArray) := [(1, prog_1_method_1_code), (2, prog_1_method_2_code), (3, prog_1_method_3_code), (4, prog_1_method_4_code), (5, prog_1_method_5_code), (6, prog_1_method_6_code), (7, prog_1_method_7_code), (8, prog_1_method_8_code), (9, prog_1_method_9_code), (10, prog_1_method_10_code), (11, prog_1_method_11_code), (12, prog_1_method_12_code), (13, prog_1_method_13_code), (14, prog_1_method_14_code), (15, prog_1_method_15_code), (16, prog_1_method_16_code), (17, prog_1_method_17_code), (18, prog_1_method_18_code), (19, prog_1_method_19_code), (20, prog_1_method_20_code), (21, prog_1_method_21_code), (22, prog_1_method_22_code), (23, prog_1_method_23_code), (24, prog_1_method_24_code), (25, prog_1_method_25_code), (26, prog_1_method_26_code), (27, prog_1_method_27_code), (28, prog_1_method_28_code), (29, prog_1_method_29_code), (30, prog_1_method_30_code), (31, prog_1_method_31_code), (34, prog_1_method_34_code), (100, code), (103, method_3_code)]
def bt (m : Nat) : ByteArray := (btL.lookup m).getD ⟨#[]⟩
def fnL : List (String × String) := [("len", "I"), ("nLanes", "I"), ("vMax", "I"), ("rnd", "I"), ("sigCell", "I"), ("green", "I"), ("redLen", "I"), ("onramp", "I"), ("offramp", "I"), ("slow", "I"), ("curRed", "Z"), ("time", "J"), ("present", "I"), ("entered", "J"), ("exited", "J"), ("vehSteps", "J"), ("distance", "J"), ("laneChanges", "J"), ("signalPasses", "J"), ("merges", "J"), ("qEx", "[Z"), ("qHead", "I"), ("qCount", "I"), ("occ", "[Z"), ("spd", "[I"), ("vid", "[I"), ("vex", "[Z"), ("nOcc", "[Z"), ("nSpd", "[I"), ("nId", "[I"), ("nEx", "[Z"), ("dest", "[I"), ("nv", "[I"), ("detCell", "[I"), ("detCount", "[J"), ("detOcc", "[J"), ("detSpeed", "[J"), ("detSamples", "[J")]
def fn (k : Nat) : String × String := fnL.getD k ("", "")
def RL : List Nat := [1, 2, 3, 4, 5, 6, 7, 8, 9, 10, 11, 12, 13, 14, 15, 16, 17, 18, 19, 20, 21, 22, 23, 24, 25, 26, 27, 28, 29, 30, 31, 34, 100, 103]
def FS : List Nat := [0, 1, 2, 3, 4, 5, 6, 7, 8, 9, 10, 11, 12, 13, 14, 15, 16, 17, 18, 19, 20, 21, 22, 23, 24, 25, 26, 27, 28, 29, 30, 31, 32, 33, 34, 35, 36, 37]
def WF : List Nat := [0, 1, 2, 3, 4, 5, 6, 7, 8, 9, 10, 11, 12, 13, 14, 15, 16, 17, 18, 19, 20, 21, 22, 23, 24, 25, 26, 27, 28, 29, 30, 31, 32, 33, 34, 35, 36, 37]
def FL : List (Nat × Nat × Nat) := [(0, 7, 20), (0, 13, 23), (0, 16, 24), (0, 20, 25), (0, 23, 26), (0, 26, 27), (0, 29, 28), (0, 32, 29), (0, 35, 30), (0, 38, 31), (0, 41, 32), (0, 44, 33), (0, 47, 34), (0, 51, 35), (0, 54, 36), (0, 57, 37), (0, 64, 0), (0, 68, 1), (0, 71, 2), (0, 75, 3), (0, 78, 4), (0, 81, 7), (0, 84, 8), (0, 91, 9), (0, 98, 5), (0, 101, 6), (0, 108, 13), (0, 112, 12), (0, 115, 22), (0, 118, 21), (0, 128, 10), (0, 147, 11), (0, 175, 17), (0, 188, 16), (0, 197, 14), (0, 200, 18), (0, 203, 19), (0, 206, 15)]
def ML : List (Nat × Nat × Nat) := [(0, 60, 11), (0, 87, 3), (0, 94, 4), (0, 104, 6), (0, 121, 9), (0, 124, 10), (0, 132, 17), (0, 135, 21), (0, 138, 23), (0, 141, 27), (0, 144, 28), (0, 151, 12), (0, 155, 14), (0, 158, 18), (0, 162, 20), (0, 165, 16), (0, 168, 15), (0, 172, 19), (0, 178, 22), (0, 181, 13), (0, 185, 24), (0, 191, 25), (0, 194, 26), (0, 209, 29), (1, 9, 1), (1, 12, 2), (1, 16, 5), (1, 20, 7), (1, 24, 8), (1, 28, 103), (1, 34, 34), (1, 40, 30), (1, 44, 31)]
def KI : List (Nat × Nat × Int) := [(0, 74, 65535), (0, 150, 1103515245)]
def KJ : List (Nat × Nat × Int) := [(0, 212, -1), (1, 38, 16)]
def ATL : List FieldType := [.boolean, .int, .long]
def cn (j : Nat) : String := if j = 0 then "RingRoadCA" else "RingRoadCAL4"
def own (m : Nat) : Nat := if m < 100 then 0 else 1
def ini (m : Nat) : Bool := m == 1
def rowsOf (m : Nat) : List Jvm.JX.Row := if m < 100 then prows.getD m [] else lrows.getD (m - 100) []
theorem hFL : ∀ t ∈ FL, t.2.2 ∈ FS ∧ Jvm.Cond.fieldLink (cn t.1) t.2.1 "RingRoadCA" (fn t.2.2).1 (fn t.2.2).2 ∈ tables_1 := (faS ⟨by decide, (List.mem_of_getElem? (i := 10) rfl)⟩ (faS ⟨by decide, (List.mem_of_getElem? (i := 12) rfl)⟩ (faS ⟨by decide, (List.mem_of_getElem? (i := 15) rfl)⟩ (faS ⟨by decide, (List.mem_of_getElem? (i := 17) rfl)⟩ (faS ⟨by decide, (List.mem_of_getElem? (i := 19) rfl)⟩ (faS ⟨by decide, (List.mem_of_getElem? (i := 21) rfl)⟩ (faS ⟨by decide, (List.mem_of_getElem? (i := 23) rfl)⟩ (faS ⟨by decide, (List.mem_of_getElem? (i := 25) rfl)⟩ (faS ⟨by decide, (List.mem_of_getElem? (i := 27) rfl)⟩ (faS ⟨by decide, (List.mem_of_getElem? (i := 29) rfl)⟩ (faS ⟨by decide, (List.mem_of_getElem? (i := 31) rfl)⟩ (faS ⟨by decide, (List.mem_of_getElem? (i := 33) rfl)⟩ (faS ⟨by decide, (List.mem_of_getElem? (i := 36) rfl)⟩ (faS ⟨by decide, (List.mem_of_getElem? (i := 38) rfl)⟩ (faS ⟨by decide, (List.mem_of_getElem? (i := 40) rfl)⟩ (faS ⟨by decide, (List.mem_of_getElem? (i := 42) rfl)⟩ (faS ⟨by decide, (List.mem_of_getElem? (i := 48) rfl)⟩ (faS ⟨by decide, (List.mem_of_getElem? (i := 50) rfl)⟩ (faS ⟨by decide, (List.mem_of_getElem? (i := 52) rfl)⟩ (faS ⟨by decide, (List.mem_of_getElem? (i := 55) rfl)⟩ (faS ⟨by decide, (List.mem_of_getElem? (i := 57) rfl)⟩ (faS ⟨by decide, (List.mem_of_getElem? (i := 59) rfl)⟩ (faS ⟨by decide, (List.mem_of_getElem? (i := 61) rfl)⟩ (faS ⟨by decide, (List.mem_of_getElem? (i := 191) rfl)⟩ (faS ⟨by decide, (List.mem_of_getElem? (i := 217) rfl)⟩ (faS ⟨by decide, (List.mem_of_getElem? (i := 219) rfl)⟩ (faS ⟨by decide, (List.mem_of_getElem? (i := 118) rfl)⟩ (faS ⟨by decide, (List.mem_of_getElem? (i := 105) rfl)⟩ (faS ⟨by decide, (List.mem_of_getElem? (i := 122) rfl)⟩ (faS ⟨by decide, (List.mem_of_getElem? (i := 144) rfl)⟩ (faS ⟨by decide, (List.mem_of_getElem? (i := 77) rfl)⟩ (faS ⟨by decide, (List.mem_of_getElem? (i := 107) rfl)⟩ (faS ⟨by decide, (List.mem_of_getElem? (i := 172) rfl)⟩ (faS ⟨by decide, (List.mem_of_getElem? (i := 197) rfl)⟩ (faS ⟨by decide, (List.mem_of_getElem? (i := 120) rfl)⟩ (faS ⟨by decide, (List.mem_of_getElem? (i := 221) rfl)⟩ (faS ⟨by decide, (List.mem_of_getElem? (i := 207) rfl)⟩ (faS ⟨by decide, (List.mem_of_getElem? (i := 103) rfl)⟩ fa0))))))))))))))))))))))))))))))))))))))
theorem hWF : ∀ k ∈ WF, Jvm.Cond.lays "RingRoadCA" "RingRoadCA" (fn k).1 (fn k).2 ∈ tables_1 := (faS (List.mem_of_getElem? (i := 49) rfl) (faS (List.mem_of_getElem? (i := 51) rfl) (faS (List.mem_of_getElem? (i := 53) rfl) (faS (List.mem_of_getElem? (i := 56) rfl) (faS (List.mem_of_getElem? (i := 58) rfl) (faS (List.mem_of_getElem? (i := 218) rfl) (faS (List.mem_of_getElem? (i := 220) rfl) (faS (List.mem_of_getElem? (i := 60) rfl) (faS (List.mem_of_getElem? (i := 62) rfl) (faS (List.mem_of_getElem? (i := 192) rfl) (faS (List.mem_of_getElem? (i := 78) rfl) (faS (List.mem_of_getElem? (i := 108) rfl) (faS (List.mem_of_getElem? (i := 106) rfl) (faS (List.mem_of_getElem? (i := 119) rfl) (faS (List.mem_of_getElem? (i := 121) rfl) (faS (List.mem_of_getElem? (i := 104) rfl) (faS (List.mem_of_getElem? (i := 198) rfl) (faS (List.mem_of_getElem? (i := 173) rfl) (faS (List.mem_of_getElem? (i := 222) rfl) (faS (List.mem_of_getElem? (i := 208) rfl) (faS (List.mem_of_getElem? (i := 11) rfl) (faS (List.mem_of_getElem? (i := 145) rfl) (faS (List.mem_of_getElem? (i := 123) rfl) (faS (List.mem_of_getElem? (i := 13) rfl) (faS (List.mem_of_getElem? (i := 16) rfl) (faS (List.mem_of_getElem? (i := 18) rfl) (faS (List.mem_of_getElem? (i := 20) rfl) (faS (List.mem_of_getElem? (i := 22) rfl) (faS (List.mem_of_getElem? (i := 24) rfl) (faS (List.mem_of_getElem? (i := 26) rfl) (faS (List.mem_of_getElem? (i := 28) rfl) (faS (List.mem_of_getElem? (i := 30) rfl) (faS (List.mem_of_getElem? (i := 32) rfl) (faS (List.mem_of_getElem? (i := 34) rfl) (faS (List.mem_of_getElem? (i := 37) rfl) (faS (List.mem_of_getElem? (i := 39) rfl) (faS (List.mem_of_getElem? (i := 41) rfl) (faS (List.mem_of_getElem? (i := 43) rfl) fa0))))))))))))))))))))))))))))))))))))))
theorem hML : ∀ t ∈ ML, t.2.2 ∈ RL ∧ Jvm.Cond.methodLink (cn t.1) t.2.1 (nm t.2.2) ∈ tables_1 := (faS ⟨by decide, (List.mem_of_getElem? (i := 44) rfl)⟩ (faS ⟨by decide, (List.mem_of_getElem? (i := 213) rfl)⟩ (faS ⟨by decide, (List.mem_of_getElem? (i := 223) rfl)⟩ (faS ⟨by decide, (List.mem_of_getElem? (i := 151) rfl)⟩ (faS ⟨by decide, (List.mem_of_getElem? (i := 68) rfl)⟩ (faS ⟨by decide, (List.mem_of_getElem? (i := 72) rfl)⟩ (faS ⟨by decide, (List.mem_of_getElem? (i := 79) rfl)⟩ (faS ⟨by decide, (List.mem_of_getElem? (i := 87) rfl)⟩ (faS ⟨by decide, (List.mem_of_getElem? (i := 91) rfl)⟩ (faS ⟨by decide, (List.mem_of_getElem? (i := 95) rfl)⟩ (faS ⟨by decide, (List.mem_of_getElem? (i := 99) rfl)⟩ (faS ⟨by decide, (List.mem_of_getElem? (i := 168) rfl)⟩ (faS ⟨by decide, (List.mem_of_getElem? (i := 182) rfl)⟩ (faS ⟨by decide, (List.mem_of_getElem? (i := 160) rfl)⟩ (faS ⟨by decide, (List.mem_of_getElem? (i := 83) rfl)⟩ (faS ⟨by decide, (List.mem_of_getElem? (i := 164) rfl)⟩ (faS ⟨by decide, (List.mem_of_getElem? (i := 178) rfl)⟩ (faS ⟨by decide, (List.mem_of_getElem? (i := 209) rfl)⟩ (faS ⟨by decide, (List.mem_of_getElem? (i := 174) rfl)⟩ (faS ⟨by decide, (List.mem_of_getElem? (i := 186) rfl)⟩ (faS ⟨by decide, (List.mem_of_getElem? (i := 193) rfl)⟩ (faS ⟨by decide, (List.mem_of_getElem? (i := 199) rfl)⟩ (faS ⟨by decide, (List.mem_of_getElem? (i := 203) rfl)⟩ (faS ⟨by decide, (List.mem_of_getElem? (i := 130) rfl)⟩ (faS ⟨by decide, (List.mem_of_getElem? (i := 3) rfl)⟩ (faS ⟨by decide, (List.mem_of_getElem? (i := 134) rfl)⟩ (faS ⟨by decide, (List.mem_of_getElem? (i := 146) rfl)⟩ (faS ⟨by decide, (List.mem_of_getElem? (i := 139) rfl)⟩ (faS ⟨by decide, (List.mem_of_getElem? (i := 63) rfl)⟩ (faS ⟨by decide, (List.mem_of_getElem? (i := 109) rfl)⟩ (faS ⟨by decide, (List.mem_of_getElem? (i := 113) rfl)⟩ (faS ⟨by decide, (List.mem_of_getElem? (i := 125) rfl)⟩ (faS ⟨by decide, (List.mem_of_getElem? (i := 155) rfl)⟩ fa0)))))))))))))))))))))))))))))))))
theorem hKI : ∀ t ∈ KI, Jvm.Cond.constant (cn t.1) t.2.1 (Int32.ofInt t.2.2) ∈ tables_1 := (faS (List.mem_of_getElem? (i := 54) rfl) (faS (List.mem_of_getElem? (i := 190) rfl) fa0))
theorem hKJ : ∀ t ∈ KJ, Jvm.Cond.constantLong (cn t.1) t.2.1 (Int64.ofInt t.2.2) ∈ tables_1 := (faS (List.mem_of_getElem? (i := 227) rfl) (faS (List.mem_of_getElem? (i := 124) rfl) fa0))
theorem hAT : ∀ t ∈ ATL, Jvm.Cond.arrayClass t ∈ tables_1 := (faS (List.mem_of_getElem? (i := 9) rfl) (faS (List.mem_of_getElem? (i := 14) rfl) (faS (List.mem_of_getElem? (i := 35) rfl) fa0)))
theorem hrows : RL.all (fun m => (rowsOf m).all (rowOne FL ML KI KJ ATL WF 38 7 bt own ini m)) = true := by decide +kernel
theorem cal1 : CalOk (pj lw) tables_1 "RingRoadCA" nm bt 1 := ⟨(List.mem_of_getElem? (i := 5) rfl), (List.mem_of_getElem? (i := 2) rfl), ⟨[.int, .int, .int, .int], none, by decide +kernel, rfl⟩, fun h => absurd h (by decide), fun _ => ⟨rfl, (List.mem_of_getElem? (i := 4) rfl)⟩, fun h => absurd h (by decide), fun h => absurd h (by decide), fun _ => ⟨rfl, rfl⟩⟩
theorem cal2 : CalOk (pj lw) tables_1 "RingRoadCA" nm bt 2 := ⟨(List.mem_of_getElem? (i := 138) rfl), (List.mem_of_getElem? (i := 2) rfl), ⟨[.int, .int, .int, .int], some .boolean, by decide +kernel, rfl⟩, fun h => absurd h (by decide), fun _ => ⟨rfl, (List.mem_of_getElem? (i := 136) rfl)⟩, fun _ => ⟨(List.mem_of_getElem? (i := 135) rfl), (List.mem_of_getElem? (i := 137) rfl)⟩, fun h => absurd h (by decide), fun h => absurd h (by decide)⟩
theorem cal3 : CalOk (pj lw) tables_1 "RingRoadCA" nm bt 3 := ⟨(List.mem_of_getElem? (i := 216) rfl), (List.mem_of_getElem? (i := 2) rfl), ⟨[.int, .int, .int], some .boolean, by decide +kernel, rfl⟩, fun h => absurd h (by decide), fun _ => ⟨rfl, (List.mem_of_getElem? (i := 214) rfl)⟩, fun h => absurd h (by decide), fun _ => (List.mem_of_getElem? (i := 215) rfl), fun h => absurd h (by decide)⟩
theorem cal4 : CalOk (pj lw) tables_1 "RingRoadCA" nm bt 4 := ⟨(List.mem_of_getElem? (i := 226) rfl), (List.mem_of_getElem? (i := 2) rfl), ⟨[.int, .int], some .boolean, by decide +kernel, rfl⟩, fun h => absurd h (by decide), fun _ => ⟨rfl, (List.mem_of_getElem? (i := 224) rfl)⟩, fun h => absurd h (by decide), fun _ => (List.mem_of_getElem? (i := 225) rfl), fun h => absurd h (by decide)⟩
theorem cal5 : CalOk (pj lw) tables_1 "RingRoadCA" nm bt 5 := ⟨(List.mem_of_getElem? (i := 150) rfl), (List.mem_of_getElem? (i := 2) rfl), ⟨[.int, .int, .int, .boolean], some .boolean, by decide +kernel, rfl⟩, fun h => absurd h (by decide), fun _ => ⟨rfl, (List.mem_of_getElem? (i := 148) rfl)⟩, fun _ => ⟨(List.mem_of_getElem? (i := 147) rfl), (List.mem_of_getElem? (i := 149) rfl)⟩, fun h => absurd h (by decide), fun h => absurd h (by decide)⟩
theorem cal6 : CalOk (pj lw) tables_1 "RingRoadCA" nm bt 6 := ⟨(List.mem_of_getElem? (i := 154) rfl), (List.mem_of_getElem? (i := 2) rfl), ⟨[.int, .int, .boolean], none, by decide +kernel, rfl⟩, fun h => absurd h (by decide), fun _ => ⟨rfl, (List.mem_of_getElem? (i := 152) rfl)⟩, fun h => absurd h (by decide), fun _ => (List.mem_of_getElem? (i := 153) rfl), fun h => absurd h (by decide)⟩
theorem cal7 : CalOk (pj lw) tables_1 "RingRoadCA" nm bt 7 := ⟨(List.mem_of_getElem? (i := 143) rfl), (List.mem_of_getElem? (i := 2) rfl), ⟨[.boolean], some .boolean, by decide +kernel, rfl⟩, fun h => absurd h (by decide), fun _ => ⟨rfl, (List.mem_of_getElem? (i := 141) rfl)⟩, fun _ => ⟨(List.mem_of_getElem? (i := 140) rfl), (List.mem_of_getElem? (i := 142) rfl)⟩, fun h => absurd h (by decide), fun h => absurd h (by decide)⟩
theorem cal8 : CalOk (pj lw) tables_1 "RingRoadCA" nm bt 8 := ⟨(List.mem_of_getElem? (i := 67) rfl), (List.mem_of_getElem? (i := 2) rfl), ⟨[.int], some .int, by decide +kernel, rfl⟩, fun h => absurd h (by decide), fun _ => ⟨rfl, (List.mem_of_getElem? (i := 65) rfl)⟩, fun _ => ⟨(List.mem_of_getElem? (i := 64) rfl), (List.mem_of_getElem? (i := 66) rfl)⟩, fun h => absurd h (by decide), fun h => absurd h (by decide)⟩
theorem cal9 : CalOk (pj lw) tables_1 "RingRoadCA" nm bt 9 := ⟨(List.mem_of_getElem? (i := 71) rfl), (List.mem_of_getElem? (i := 2) rfl), ⟨[], none, by decide +kernel, rfl⟩, fun h => absurd h (by decide), fun _ => ⟨rfl, (List.mem_of_getElem? (i := 69) rfl)⟩, fun h => absurd h (by decide), fun _ => (List.mem_of_getElem? (i := 70) rfl), fun h => absurd h (by decide)⟩
theorem cal10 : CalOk (pj lw) tables_1 "RingRoadCA" nm bt 10 := ⟨(List.mem_of_getElem? (i := 76) rfl), (List.mem_of_getElem? (i := 2) rfl), ⟨[], some .boolean, by decide +kernel, rfl⟩, fun h => absurd h (by decide), fun _ => ⟨rfl, (List.mem_of_getElem? (i := 74) rfl)⟩, fun _ => ⟨(List.mem_of_getElem? (i := 73) rfl), (List.mem_of_getElem? (i := 75) rfl)⟩, fun h => absurd h (by decide), fun h => absurd h (by decide)⟩
theorem cal11 : CalOk (pj lw) tables_1 "RingRoadCA" nm bt 11 := ⟨(List.mem_of_getElem? (i := 47) rfl), (List.mem_of_getElem? (i := 2) rfl), ⟨[.int, .int, .int], some .int, by decide +kernel, rfl⟩, fun h => absurd h (by decide), fun _ => ⟨rfl, (List.mem_of_getElem? (i := 45) rfl)⟩, fun h => absurd h (by decide), fun _ => (List.mem_of_getElem? (i := 46) rfl), fun h => absurd h (by decide)⟩
theorem cal12 : CalOk (pj lw) tables_1 "RingRoadCA" nm bt 12 := ⟨(List.mem_of_getElem? (i := 171) rfl), (List.mem_of_getElem? (i := 2) rfl), ⟨[.int], some .int, by decide +kernel, rfl⟩, fun h => absurd h (by decide), fun _ => ⟨rfl, (List.mem_of_getElem? (i := 169) rfl)⟩, fun h => absurd h (by decide), fun _ => (List.mem_of_getElem? (i := 170) rfl), fun h => absurd h (by decide)⟩
theorem cal13 : CalOk (pj lw) tables_1 "RingRoadCA" nm bt 13 := ⟨(List.mem_of_getElem? (i := 189) rfl), (List.mem_of_getElem? (i := 2) rfl), ⟨[], some .int, by decide +kernel, rfl⟩, fun h => absurd h (by decide), fun _ => ⟨rfl, (List.mem_of_getElem? (i := 187) rfl)⟩, fun h => absurd h (by decide), fun _ => (List.mem_of_getElem? (i := 188) rfl), fun h => absurd h (by decide)⟩
theorem cal14 : CalOk (pj lw) tables_1 "RingRoadCA" nm bt 14 := ⟨(List.mem_of_getElem? (i := 185) rfl), (List.mem_of_getElem? (i := 2) rfl), ⟨[.int, .int], some .boolean, by decide +kernel, rfl⟩, fun h => absurd h (by decide), fun _ => ⟨rfl, (List.mem_of_getElem? (i := 183) rfl)⟩, fun h => absurd h (by decide), fun _ => (List.mem_of_getElem? (i := 184) rfl), fun h => absurd h (by decide)⟩
theorem cal15 : CalOk (pj lw) tables_1 "RingRoadCA" nm bt 15 := ⟨(List.mem_of_getElem? (i := 181) rfl), (List.mem_of_getElem? (i := 2) rfl), ⟨[.int, .int], some .int, by decide +kernel, rfl⟩, fun h => absurd h (by decide), fun _ => ⟨rfl, (List.mem_of_getElem? (i := 179) rfl)⟩, fun h => absurd h (by decide), fun _ => (List.mem_of_getElem? (i := 180) rfl), fun h => absurd h (by decide)⟩
theorem cal16 : CalOk (pj lw) tables_1 "RingRoadCA" nm bt 16 := ⟨(List.mem_of_getElem? (i := 167) rfl), (List.mem_of_getElem? (i := 2) rfl), ⟨[.int, .int], some .boolean, by decide +kernel, rfl⟩, fun h => absurd h (by decide), fun _ => ⟨rfl, (List.mem_of_getElem? (i := 165) rfl)⟩, fun h => absurd h (by decide), fun _ => (List.mem_of_getElem? (i := 166) rfl), fun h => absurd h (by decide)⟩
theorem cal17 : CalOk (pj lw) tables_1 "RingRoadCA" nm bt 17 := ⟨(List.mem_of_getElem? (i := 82) rfl), (List.mem_of_getElem? (i := 2) rfl), ⟨[], none, by decide +kernel, rfl⟩, fun h => absurd h (by decide), fun _ => ⟨rfl, (List.mem_of_getElem? (i := 80) rfl)⟩, fun h => absurd h (by decide), fun _ => (List.mem_of_getElem? (i := 81) rfl), fun h => absurd h (by decide)⟩
theorem cal18 : CalOk (pj lw) tables_1 "RingRoadCA" nm bt 18 := ⟨(List.mem_of_getElem? (i := 163) rfl), (List.mem_of_getElem? (i := 2) rfl), ⟨[.int, .int], none, by decide +kernel, rfl⟩, fun h => absurd h (by decide), fun _ => ⟨rfl, (List.mem_of_getElem? (i := 161) rfl)⟩, fun h => absurd h (by decide), fun _ => (List.mem_of_getElem? (i := 162) rfl), fun h => absurd h (by decide)⟩
theorem cal19 : CalOk (pj lw) tables_1 "RingRoadCA" nm bt 19 := ⟨(List.mem_of_getElem? (i := 212) rfl), (List.mem_of_getElem? (i := 2) rfl), ⟨[.int, .int, .int], some .int, by decide +kernel, rfl⟩, fun h => absurd h (by decide), fun _ => ⟨rfl, (List.mem_of_getElem? (i := 210) rfl)⟩, fun h => absurd h (by decide), fun _ => (List.mem_of_getElem? (i := 211) rfl), fun h => absurd h (by decide)⟩
theorem cal20 : CalOk (pj lw) tables_1 "RingRoadCA" nm bt 20 := ⟨(List.mem_of_getElem? (i := 86) rfl), (List.mem_of_getElem? (i := 2) rfl), ⟨[.int, .int], none, by decide +kernel, rfl⟩, fun h => absurd h (by decide), fun _ => ⟨rfl, (List.mem_of_getElem? (i := 84) rfl)⟩, fun h => absurd h (by decide), fun _ => (List.mem_of_getElem? (i := 85) rfl), fun h => absurd h (by decide)⟩
theorem cal21 : CalOk (pj lw) tables_1 "RingRoadCA" nm bt 21 := ⟨(List.mem_of_getElem? (i := 90) rfl), (List.mem_of_getElem? (i := 2) rfl), ⟨[], none, by decide +kernel, rfl⟩, fun h => absurd h (by decide), fun _ => ⟨rfl, (List.mem_of_getElem? (i := 88) rfl)⟩, fun h => absurd h (by decide), fun _ => (List.mem_of_getElem? (i := 89) rfl), fun h => absurd h (by decide)⟩
theorem cal22 : CalOk (pj lw) tables_1 "RingRoadCA" nm bt 22 := ⟨(List.mem_of_getElem? (i := 177) rfl), (List.mem_of_getElem? (i := 2) rfl), ⟨[.int, .int], none, by decide +kernel, rfl⟩, fun h => absurd h (by decide), fun _ => ⟨rfl, (List.mem_of_getElem? (i := 175) rfl)⟩, fun h => absurd h (by decide), fun _ => (List.mem_of_getElem? (i := 176) rfl), fun h => absurd h (by decide)⟩
theorem cal23 : CalOk (pj lw) tables_1 "RingRoadCA" nm bt 23 := ⟨(List.mem_of_getElem? (i := 94) rfl), (List.mem_of_getElem? (i := 2) rfl), ⟨[], none, by decide +kernel, rfl⟩, fun h => absurd h (by decide), fun _ => ⟨rfl, (List.mem_of_getElem? (i := 92) rfl)⟩, fun h => absurd h (by decide), fun _ => (List.mem_of_getElem? (i := 93) rfl), fun h => absurd h (by decide)⟩
theorem cal24 : CalOk (pj lw) tables_1 "RingRoadCA" nm bt 24 := ⟨(List.mem_of_getElem? (i := 196) rfl), (List.mem_of_getElem? (i := 2) rfl), ⟨[.int, .int], none, by decide +kernel, rfl⟩, fun h => absurd h (by decide), fun _ => ⟨rfl, (List.mem_of_getElem? (i := 194) rfl)⟩, fun h => absurd h (by decide), fun _ => (List.mem_of_getElem? (i := 195) rfl), fun h => absurd h (by decide)⟩
theorem cal25 : CalOk (pj lw) tables_1 "RingRoadCA" nm bt 25 := ⟨(List.mem_of_getElem? (i := 202) rfl), (List.mem_of_getElem? (i := 2) rfl), ⟨[.int, .int, .int], some .int, by decide +kernel, rfl⟩, fun h => absurd h (by decide), fun _ => ⟨rfl, (List.mem_of_getElem? (i := 200) rfl)⟩, fun h => absurd h (by decide), fun _ => (List.mem_of_getElem? (i := 201) rfl), fun h => absurd h (by decide)⟩
theorem cal26 : CalOk (pj lw) tables_1 "RingRoadCA" nm bt 26 := ⟨(List.mem_of_getElem? (i := 206) rfl), (List.mem_of_getElem? (i := 2) rfl), ⟨[.int, .int], none, by decide +kernel, rfl⟩, fun h => absurd h (by decide), fun _ => ⟨rfl, (List.mem_of_getElem? (i := 204) rfl)⟩, fun h => absurd h (by decide), fun _ => (List.mem_of_getElem? (i := 205) rfl), fun h => absurd h (by decide)⟩
theorem cal27 : CalOk (pj lw) tables_1 "RingRoadCA" nm bt 27 := ⟨(List.mem_of_getElem? (i := 98) rfl), (List.mem_of_getElem? (i := 2) rfl), ⟨[], none, by decide +kernel, rfl⟩, fun h => absurd h (by decide), fun _ => ⟨rfl, (List.mem_of_getElem? (i := 96) rfl)⟩, fun h => absurd h (by decide), fun _ => (List.mem_of_getElem? (i := 97) rfl), fun h => absurd h (by decide)⟩
theorem cal28 : CalOk (pj lw) tables_1 "RingRoadCA" nm bt 28 := ⟨(List.mem_of_getElem? (i := 102) rfl), (List.mem_of_getElem? (i := 2) rfl), ⟨[], none, by decide +kernel, rfl⟩, fun h => absurd h (by decide), fun _ => ⟨rfl, (List.mem_of_getElem? (i := 100) rfl)⟩, fun h => absurd h (by decide), fun _ => (List.mem_of_getElem? (i := 101) rfl), fun h => absurd h (by decide)⟩
theorem cal29 : CalOk (pj lw) tables_1 "RingRoadCA" nm bt 29 := ⟨(List.mem_of_getElem? (i := 133) rfl), (List.mem_of_getElem? (i := 2) rfl), ⟨[.int, .int], some .boolean, by decide +kernel, rfl⟩, fun h => absurd h (by decide), fun _ => ⟨rfl, (List.mem_of_getElem? (i := 131) rfl)⟩, fun h => absurd h (by decide), fun _ => (List.mem_of_getElem? (i := 132) rfl), fun h => absurd h (by decide)⟩
theorem cal30 : CalOk (pj lw) tables_1 "RingRoadCA" nm bt 30 := ⟨(List.mem_of_getElem? (i := 129) rfl), (List.mem_of_getElem? (i := 2) rfl), ⟨[.int, .int], some .int, by decide +kernel, rfl⟩, fun h => absurd h (by decide), fun _ => ⟨rfl, (List.mem_of_getElem? (i := 127) rfl)⟩, fun _ => ⟨(List.mem_of_getElem? (i := 126) rfl), (List.mem_of_getElem? (i := 128) rfl)⟩, fun h => absurd h (by decide), fun h => absurd h (by decide)⟩
theorem cal31 : CalOk (pj lw) tables_1 "RingRoadCA" nm bt 31 := ⟨(List.mem_of_getElem? (i := 159) rfl), (List.mem_of_getElem? (i := 2) rfl), ⟨[.int, .int], some .int, by decide +kernel, rfl⟩, fun h => absurd h (by decide), fun _ => ⟨rfl, (List.mem_of_getElem? (i := 157) rfl)⟩, fun _ => ⟨(List.mem_of_getElem? (i := 156) rfl), (List.mem_of_getElem? (i := 158) rfl)⟩, fun h => absurd h (by decide), fun h => absurd h (by decide)⟩
theorem cal34 : CalOk (pj lw) tables_1 "RingRoadCA" nm bt 34 := ⟨(List.mem_of_getElem? (i := 117) rfl), (List.mem_of_getElem? (i := 2) rfl), ⟨[.int], some .long, by decide +kernel, rfl⟩, fun h => absurd h (by decide), fun _ => ⟨rfl, (List.mem_of_getElem? (i := 115) rfl)⟩, fun _ => ⟨(List.mem_of_getElem? (i := 114) rfl), (List.mem_of_getElem? (i := 116) rfl)⟩, fun h => absurd h (by decide), fun h => absurd h (by decide)⟩
theorem cal103 : CalOk (pj lw) tables_1 "RingRoadCA" nm bt 103 := ⟨(List.mem_of_getElem? (i := 112) rfl), (List.mem_of_getElem? (i := 111) rfl), ⟨[.object "RingRoadCA"], some .boolean, by decide +kernel, rfl⟩, fun _ => (List.mem_of_getElem? (i := 110) rfl), fun h => absurd rfl h, fun h => absurd h (by decide), fun h => absurd h (by decide), fun h => absurd h (by decide)⟩
theorem hcal : ∀ m ∈ RL, m ≠ 100 → CalOk (pj lw) tables_1 "RingRoadCA" nm bt m := (faS (fun _ => cal1) (faS (fun _ => cal2) (faS (fun _ => cal3) (faS (fun _ => cal4) (faS (fun _ => cal5) (faS (fun _ => cal6) (faS (fun _ => cal7) (faS (fun _ => cal8) (faS (fun _ => cal9) (faS (fun _ => cal10) (faS (fun _ => cal11) (faS (fun _ => cal12) (faS (fun _ => cal13) (faS (fun _ => cal14) (faS (fun _ => cal15) (faS (fun _ => cal16) (faS (fun _ => cal17) (faS (fun _ => cal18) (faS (fun _ => cal19) (faS (fun _ => cal20) (faS (fun _ => cal21) (faS (fun _ => cal22) (faS (fun _ => cal23) (faS (fun _ => cal24) (faS (fun _ => cal25) (faS (fun _ => cal26) (faS (fun _ => cal27) (faS (fun _ => cal28) (faS (fun _ => cal29) (faS (fun _ => cal30) (faS (fun _ => cal31) (faS (fun _ => cal34) (faS (fun h => absurd rfl h) (faS (fun _ => cal103) fa0))))))))))))))))))))))))))))))))))
theorem hfld : ∀ k ∈ FS, parseFieldDescriptor (fn k).2 = some ((pj lw).2.2.1 k) ∧ (Jvm.Cond.lays "RingRoadCA" "RingRoadCA" (fn k).1 (fn k).2 ∈ tables_1 ∨ Jvm.Cond.laysFinal "RingRoadCA" "RingRoadCA" (fn k).1 (fn k).2 ∈ tables_1) := (faS ⟨by decide +kernel, Or.inl (List.mem_of_getElem? (i := 49) rfl)⟩ (faS ⟨by decide +kernel, Or.inl (List.mem_of_getElem? (i := 51) rfl)⟩ (faS ⟨by decide +kernel, Or.inl (List.mem_of_getElem? (i := 53) rfl)⟩ (faS ⟨by decide +kernel, Or.inl (List.mem_of_getElem? (i := 56) rfl)⟩ (faS ⟨by decide +kernel, Or.inl (List.mem_of_getElem? (i := 58) rfl)⟩ (faS ⟨by decide +kernel, Or.inl (List.mem_of_getElem? (i := 218) rfl)⟩ (faS ⟨by decide +kernel, Or.inl (List.mem_of_getElem? (i := 220) rfl)⟩ (faS ⟨by decide +kernel, Or.inl (List.mem_of_getElem? (i := 60) rfl)⟩ (faS ⟨by decide +kernel, Or.inl (List.mem_of_getElem? (i := 62) rfl)⟩ (faS ⟨by decide +kernel, Or.inl (List.mem_of_getElem? (i := 192) rfl)⟩ (faS ⟨by decide +kernel, Or.inl (List.mem_of_getElem? (i := 78) rfl)⟩ (faS ⟨by decide +kernel, Or.inl (List.mem_of_getElem? (i := 108) rfl)⟩ (faS ⟨by decide +kernel, Or.inl (List.mem_of_getElem? (i := 106) rfl)⟩ (faS ⟨by decide +kernel, Or.inl (List.mem_of_getElem? (i := 119) rfl)⟩ (faS ⟨by decide +kernel, Or.inl (List.mem_of_getElem? (i := 121) rfl)⟩ (faS ⟨by decide +kernel, Or.inl (List.mem_of_getElem? (i := 104) rfl)⟩ (faS ⟨by decide +kernel, Or.inl (List.mem_of_getElem? (i := 198) rfl)⟩ (faS ⟨by decide +kernel, Or.inl (List.mem_of_getElem? (i := 173) rfl)⟩ (faS ⟨by decide +kernel, Or.inl (List.mem_of_getElem? (i := 222) rfl)⟩ (faS ⟨by decide +kernel, Or.inl (List.mem_of_getElem? (i := 208) rfl)⟩ (faS ⟨by decide +kernel, Or.inl (List.mem_of_getElem? (i := 11) rfl)⟩ (faS ⟨by decide +kernel, Or.inl (List.mem_of_getElem? (i := 145) rfl)⟩ (faS ⟨by decide +kernel, Or.inl (List.mem_of_getElem? (i := 123) rfl)⟩ (faS ⟨by decide +kernel, Or.inl (List.mem_of_getElem? (i := 13) rfl)⟩ (faS ⟨by decide +kernel, Or.inl (List.mem_of_getElem? (i := 16) rfl)⟩ (faS ⟨by decide +kernel, Or.inl (List.mem_of_getElem? (i := 18) rfl)⟩ (faS ⟨by decide +kernel, Or.inl (List.mem_of_getElem? (i := 20) rfl)⟩ (faS ⟨by decide +kernel, Or.inl (List.mem_of_getElem? (i := 22) rfl)⟩ (faS ⟨by decide +kernel, Or.inl (List.mem_of_getElem? (i := 24) rfl)⟩ (faS ⟨by decide +kernel, Or.inl (List.mem_of_getElem? (i := 26) rfl)⟩ (faS ⟨by decide +kernel, Or.inl (List.mem_of_getElem? (i := 28) rfl)⟩ (faS ⟨by decide +kernel, Or.inl (List.mem_of_getElem? (i := 30) rfl)⟩ (faS ⟨by decide +kernel, Or.inl (List.mem_of_getElem? (i := 32) rfl)⟩ (faS ⟨by decide +kernel, Or.inl (List.mem_of_getElem? (i := 34) rfl)⟩ (faS ⟨by decide +kernel, Or.inl (List.mem_of_getElem? (i := 37) rfl)⟩ (faS ⟨by decide +kernel, Or.inl (List.mem_of_getElem? (i := 39) rfl)⟩ (faS ⟨by decide +kernel, Or.inl (List.mem_of_getElem? (i := 41) rfl)⟩ (faS ⟨by decide +kernel, Or.inl (List.mem_of_getElem? (i := 43) rfl)⟩ fa0))))))))))))))))))))))))))))))))))))))
theorem good : Good (pj lw) tables_1 "RingRoadCA" fn FS 38 nm bt RL 100 := by
  refine ⟨(List.mem_of_getElem? (i := 1) rfl), (List.mem_of_getElem? (i := 2) rfl), hfld, by decide +kernel, fun m hm => ?_, hcal, fun m _ pc ins len aux _ _ => by cases ins <;> rfl⟩
  have hpl : plainName "RingRoadCA" = true ∧ plainName "RingRoadCAL4" = true := ⟨by first | (simp [plainName, overriddenIn]; done) | decide +kernel, by first | (simp [plainName, overriddenIn]; done) | decide +kernel⟩
  have hcn : ∀ m ∈ RL, (nm m).cls = cn (own m) := by decide +kernel
  have hin : ∀ m ∈ RL, ini m = true → (nm m).cls = "RingRoadCA" ∧ (nm m).name = "<init>" := by decide +kernel
  have hor : (nm m).cls = "RingRoadCA" ∨ (nm m).cls = "RingRoadCAL4" := by rw [hcn m hm]; unfold cn; split <;> simp
  refine ⟨by rcases hor with h | h <;> rw [h] <;> simp [hpl], by rcases hor with h | h <;> rw [h] <;> decide, fun pc ins len aux h => ?_⟩
  have hmem : (pc, ins, len, aux) ∈ rowsOf m := by
    unfold rowsOf
    by_cases g : m < 100
    · rw [if_pos g]; exact lookup_mem (by simpa [pj, g] using h)
    · rw [if_neg g]; exact lookup_mem (by simpa [pj, lw, g] using h)
  have hrow := List.all_eq_true.mp (List.all_eq_true.mp hrows m hm) _ hmem
  simp only [rowOne, Bool.and_eq_true, decide_eq_true_eq] at hrow
  exact ⟨hrow.1.1, hrow.1.2, row_ok (hcn m hm) (hin m hm) hFL hWF hML hKI hKJ hAT (List.mem_of_getElem? (i := 0) rfl) ⟨(List.mem_of_getElem? (i := 6) rfl), (List.mem_of_getElem? (i := 7) rfl), (List.mem_of_getElem? (i := 8) rfl)⟩ hrow.2⟩
set_option maxRecDepth 65536 in
set_option maxHeartbeats 40000000 in
theorem comes_1 {Post : Tables → Env → Array Value → State → Outcome → State → Prop} (hpost : ∀ tb e args s v u, (limb_1_1.after args s (.returned v) u = true ∧ limb_1_2.after args s (.returned v) u = true ∧ True) → FrameEnd s (.returned v) u (Jvm.fieldLocs frame_1_writes args s ++ Jvm.arrayLocs frame_1_arrays args s ++ Jvm.staticLocs frame_1_statics s) 48 7936 → Post tb e args s (.returned v) u) :
    ArmFor flags0 classFile x code maxLocals ret World_1 tables_1 room_1 Calls_1 rest_1 Pre_1 Post := by
  intro l hfl _ _ p e ha hc hk s m args below hf hA hF happ hP
  obtain ⟨hcalls, hrest, hpre⟩ := hP
  obtain ⟨-, -, -, hnamed, -, -, -, hat⟩ := (Spec.applies_iff hf).mp happ
  obtain ⟨hg, hn⟩ := and_e (Cond.before_iff.mp (show (Jvm.Cond.and given_1 narrow_1).before args s = true from hpre))
  have hw := fun d (hd : d ∈ tables_1) => atoms_spec (ws := Jvm.Cond.code x code maxLocals ret :: tables_1) hat d (List.mem_cons_of_mem _ hd)
  obtain ⟨g0, r0⟩ := and_e hg
  obtain ⟨w0, rfl⟩ : ∃ w0 : Value, args = #[w0] := by
    have hs : args.size = 1 := by simpa [Cond.value, given_1] using g0
    obtain ⟨L⟩ := args
    match L, hs with
    | [w0], _ => exact ⟨w0, rfl⟩
  have hfit : Fit s := fun {y c} hc i hi => by
    obtain ⟨ha, rfl⟩ := Array.getElem?_eq_some_iff.mp hc
    have q := List.all_eq_true.mp ((Array.all_eq_true_iff_forall_mem.mp hF) _ (Array.getElem_mem ha)) i (List.mem_range.mpr hi)
    simpa [Array.getElem?_eq_getElem hi] using q
  obtain ⟨n1, n2⟩ := and_e (show (Jvm.Cond.and (Jvm.Cond.arrayOf (Jvm.Term.arg 0) .int) (Jvm.Cond.le (Jvm.Term.length (Jvm.Term.arg 0)) (Jvm.Term.int 260))).value #[w0] s none s [] = some true from hn)
  obtain ⟨a, ea⟩ := arr_v n1
  obtain rfl : w0 = .ref a := Option.some.inj ea
  obtain ⟨cl, A⟩ := Arr.start ea n1
  have hlen : cl.slots.size < 2 ^ 31 ∧ cl.slots.size ≤ 260 := by
    obtain ⟨x, y, h1, h2, -, -⟩ := cmp_v (Or.inr (Or.inr n2))
    have hA0 := A.fin (Vm.Alike.refl _)
    by_cases hs : cl.slots.size < 2 ^ 31
    · refine ⟨hs, ?_⟩
      have e1 := len_f (args := #[.ref a]) (first := s) (o := none) (idx := []) ea hA0 hs
      have e2 : (Term.int (260 : Int32)).eval #[.ref a] s none [] s = some (.int 260) := rfl
      simp only [Cond.value, e1, e2] at n2
      have n3 : cl.slots.size.toInt32 ≤ (260 : Int32) := by simpa using n2
      rw [Int32.le_iff_toInt_le, len_toInt hs] at n3
      have : ((260 : Int32)).toInt = 260 := by decide
      omega
    · exfalso; simp [Term.eval, hA0, hs, ea] at h1
  obtain ⟨f, hR⟩ := rel_H1 (C := "RingRoadCA") (fn := fn) (F := FS) hfit A hlen.1
  obtain ⟨n, o, h1, h2, h3, _, L, rfl, ⟨N, H2, rfl⟩, hq⟩ := law_met (l := l) (Z := s) (a0 := _) (n0 := s.heap.size) good hw (as := [.ref a]) (h := s.heap) tables_1 (by decide) (by simp [Sym.laidSlots, Value.category]; decide) hR (law_ok s.heap.size a cl.slots.size f A.lt hlen.2) p e ha hc hk s m _ below hf ((Spec.applies_iff_loose hf).mp happ).1 ⟨rfl, State.Warmed39.refl s, rfl⟩ trivial
  exact ⟨n, _, h1, h2, h3, hpost _ _ _ _ _ _ ⟨Cond.after_iff.mpr rfl, Cond.after_iff.mpr (eq_i res_at (Term.int_eval (1)) rfl), trivial⟩ ⟨hq.1, hq.2.1, (hq.2.2.sift fun y hy => Or.inr (N y hy)).mono (by decide) (by decide)⟩⟩
theorem main_1_1 : Claimed_1_1 := comes_1 fun _ _ _ _ _ _ h hF => ⟨h.1, hF⟩
theorem main_1_2 : Claimed_1_2 := comes_1 fun _ _ _ _ _ _ h hF => ⟨h.2.1, hF⟩
end Jvm.Pilot.@@N@@
namespace Jvm.Pilot.@@N@@
open Jvm Jvm.ClassFile Sem Op Lib Jvm.Free Jvm.Stand Jvm.Pilot.@@N@@.Jvm.D
/-! MADE BY PROGRAM (witnessworld.py) out of the Statement's table words and the real class files: 13 classes; the members and pool entries that the words name. The judged class is class 1, her method 1. -/
namespace start1
open Jvm.ClassFile
def u (s : String) : CpInfo := .utf8 (stringToUtf16 s)
/-- a pool by its gaps: so many unusable entries, then the entry; so many at the end -/
def gap : Nat → List CpInfo → List CpInfo
  | 0, r => r
  | n + 1, r => .unusable :: gap n r
def poolList (es : List (Nat × CpInfo)) (last : Nat) : List CpInfo := es.foldr (fun e r => gap e.1 (e.2 :: r)) (gap last [])
def pool (es : List (Nat × CpInfo)) (last : Nat) : Array CpInfo := ⟨poolList es last⟩
def fileOf (pool : Array CpInfo) (this : Nat) (attrs : Array Attribute := #[]) (ms : Array MethodInfo := #[]) (fl : Nat := 33) (sup : Nat := 0) (ifs : Array Nat := #[]) (fds : Array FieldInfo := #[]) : ClassFile where
  minorVersion := 0
  majorVersion := 65
  constantPool := pool
  accessFlags := fl
  thisClass := this
  superClass := sup
  interfaces := ifs
  fields := fds
  methods := ms
  attributes := attrs
def plain (name : String) (sup : Option ClassId) : Class where
  name := name
  kind := .ordinary
  loader := none
  accessFlags := 33
  super := sup
  interfaces := #[]
  cf := none
  fields := #[]
  methods := #[]
  instanceTypes := #[]
  staticTypes := #[]
  resolved := #[]
  callSites := []
  init := .initialized
  statics := none
  mirror := none

def pool0 : Array CpInfo := pool [(5, u "<init>"), (0, u "()V"), (1, .class_ 10), (1, u "java/lang/Object")] 113

def k0c0 : Code := { maxStack := 0, maxLocals := 1, code := object_method_1_code, exceptionTable := #[], attributes := #[] }
def k0m0 : Method := { name := "<init>", desc := "()V", sig := { parameters := [], returnType := none }, accessFlags := 1, code := some k0c0 }
/-- java/lang/Object -/
def k0 : Class := { plain "java/lang/Object" none with
  accessFlags := 33
  interfaces := #[]
  cf := some (fileOf pool0 8 #[] #[{ accessFlags := 1, nameIndex := 5, descriptorIndex := 6, attributes := #[] }] 33 0 #[] #[])
  fields := #[]
  methods := #[k0m0]
  instanceTypes := #[]
  staticTypes := #[]
  resolved := Array.replicate 124 none
  statics := none }

def pool1 : Array CpInfo := pool [(2, .class_ 4), (1, u "java/lang/Object"), (0, u "<init>"), (0, u "()V"), (0, .class_ 8), (0, u "RingRoadCA"), (0, .methodref 7 10), (0, .nameAndType 5 11), (0, u "(IIII)V"), (0, .methodref 7 13), (0, .nameAndType 14 15), (0, u "configure"), (0, u "(IIII)Z"), (0, .methodref 7 17), (0, .nameAndType 18 19), (0, u "place"), (0, u "(IIIZ)Z"), (0, .methodref 7 21), (0, .nameAndType 22 23), (0, u "queueRamp"), (0, u "(Z)Z"), (0, .methodref 7 25), (0, .nameAndType 26 27), (0, u "step"), (0, u "(I)I"), (0, .methodref 29 30), (0, .class_ 31), (0, .nameAndType 32 33), (0, u "RingRoadCAL4"), (0, u "ok"), (0, u "(LRingRoadCA;)Z"), (0, .methodref 7 35), (0, .nameAndType 36 37), (0, u "stat"), (0, u "(I)J"), (0, .long 16), (1, .methodref 7 41), (0, .nameAndType 42 43), (0, u "cellSpeed"), (0, u "(II)I"), (0, .methodref 7 45), (0, .nameAndType 46 43), (0, u "cellId"), (2, u "law"), (0, u "([I)Z")] 5

def k1m0 : Method := { name := "<init>", desc := "()V", sig := { parameters := [], returnType := none }, accessFlags := 1, code := none }
def k1c1 : Code := { maxStack := 6, maxLocals := 8, code := code, exceptionTable := #[], attributes := #[] }
def k1m1 : Method := { name := "law", desc := "([I)Z", sig := { parameters := [(.array .int)], returnType := some .boolean }, accessFlags := 9, code := some k1c1 }
def k1c2 : Code := { maxStack := 6, maxLocals := 15, code := method_3_code, exceptionTable := #[], attributes := #[] }
def k1m2 : Method := { name := "ok", desc := "(LRingRoadCA;)Z", sig := { parameters := [(.object "RingRoadCA")], returnType := some .boolean }, accessFlags := 10, code := some k1c2 }
/-- RingRoadCAL4 -/
def k1 : Class := { plain "RingRoadCAL4" (some 0) with
  accessFlags := 49
  interfaces := #[]
  cf := some (fileOf pool1 29 #[] #[{ accessFlags := 1, nameIndex := 5, descriptorIndex := 6, attributes := #[] }, { accessFlags := 9, nameIndex := 49, descriptorIndex := 50, attributes := #[] }, { accessFlags := 10, nameIndex := 32, descriptorIndex := 33, attributes := #[] }] 49 2 #[] #[])
  fields := #[]
  methods := #[k1m0, k1m1, k1m2]
  instanceTypes := #[]
  staticTypes := #[]
  resolved := Array.replicate 56 none
  statics := none }

def pool2 : Array CpInfo := pool [(1, .methodref 2 3), (0, .class_ 4), (0, .nameAndType 5 6), (0, u "java/lang/Object"), (0, u "<init>"), (0, u "()V"), (0, .fieldref 8 9), (0, .class_ 10), (0, .nameAndType 11 12), (0, u "RingRoadCA"), (0, u "qEx"), (0, u "[Z"), (0, .fieldref 8 14), (0, .nameAndType 15 12), (0, u "occ"), (0, .fieldref 8 17), (0, .nameAndType 18 19), (0, u "spd"), (0, u "[I"), (0, .fieldref 8 21), (0, .nameAndType 22 19), (0, u "vid"), (0, .fieldref 8 24), (0, .nameAndType 25 12), (0, u "vex"), (0, .fieldref 8 27), (0, .nameAndType 28 12), (0, u "nOcc"), (0, .fieldref 8 30), (0, .nameAndType 31 19), (0, u "nSpd"), (0, .fieldref 8 33), (0, .nameAndType 34 19), (0, u "nId"), (0, .fieldref 8 36), (0, .nameAndType 37 12), (0, u "nEx"), (0, .fieldref 8 39), (0, .nameAndType 40 19), (0, u "dest"), (0, .fieldref 8 42), (0, .nameAndType 43 19), (0, u "nv"), (0, .fieldref 8 45), (0, .nameAndType 46 19), (0, u "detCell"), (0, .fieldref 8 48), (0, .nameAndType 49 50), (0, u "detCount"), (0, u "[J"), (0, .fieldref 8 52), (0, .nameAndType 53 50), (0, u "detOcc"), (0, .fieldref 8 55), (0, .nameAndType 56 50), (0, u "detSpeed"), (0, .fieldref 8 58), (0, .nameAndType 59 50), (0, u "detSamples"), (0, .methodref 8 61), (0, .nameAndType 62 63), (0, u "clamp"), (0, u "(III)I"), (0, .fieldref 8 65), (0, .nameAndType 66 67), (0, u "len"), (0, u "I"), (0, .fieldref 8 69), (0, .nameAndType 70 67), (0, u "nLanes"), (0, .fieldref 8 72), (0, .nameAndType 73 67), (0, u "vMax"), (0, .integer 65535), (0, .fieldref 8 76), (0, .nameAndType 77 67), (0, u "rnd"), (0, .fieldref 8 79), (0, .nameAndType 80 67), (0, u "sigCell"), (0, .fieldref 8 82), (0, .nameAndType 83 67), (0, u "onramp"), (0, .fieldref 8 85), (0, .nameAndType 86 67), (0, u "offramp"), (0, .methodref 8 88), (0, .nameAndType 89 90), (0, u "cfgSignal"), (0, u "(III)Z"), (0, .fieldref 8 92), (0, .nameAndType 93 67), (0, u "slow"), (0, .methodref 8 95), (0, .nameAndType 96 97), (0, u "cfgDetector"), (0, u "(II)Z"), (0, .fieldref 8 99), (0, .nameAndType 100 67), (0, u "green"), (0, .fieldref 8 102), (0, .nameAndType 103 67), (0, u "redLen"), (0, .methodref 8 105), (0, .nameAndType 106 107), (0, u "putVehicle"), (0, u "(IIZ)V"), (0, .fieldref 8 109), (0, .nameAndType 110 111), (0, u "entered"), (0, u "J"), (0, .fieldref 8 113), (0, .nameAndType 114 67), (0, u "present"), (0, .fieldref 8 116), (0, .nameAndType 117 67), (0, u "qCount"), (0, .fieldref 8 119), (0, .nameAndType 120 67), (0, u "qHead"), (0, .methodref 8 122), (0, .nameAndType 123 6), (0, u "oneStep"), (0, .methodref 8 125), (0, .nameAndType 126 127), (0, u "isRed"), (0, u "()Z"), (0, .fieldref 8 129), (0, .nameAndType 130 131), (0, u "curRed"), (0, u "Z"), (0, .methodref 8 133), (0, .nameAndType 134 6), (0, u "changeLanes"), (0, .methodref 8 136), (0, .nameAndType 137 6), (0, u "computeSpeeds"), (0, .methodref 8 139), (0, .nameAndType 140 6), (0, u "moveAll"), (0, .methodref 8 142), (0, .nameAndType 143 6), (0, u "merge"), (0, .methodref 8 145), (0, .nameAndType 146 6), (0, u "sample"), (0, .fieldref 8 148), (0, .nameAndType 149 111), (0, u "time"), (0, .integer 1103515245), (0, .methodref 8 152), (0, .nameAndType 153 154), (0, u "wrap"), (0, u "(I)I"), (0, .methodref 8 156), (0, .nameAndType 157 97), (0, u "blocked"), (0, .methodref 8 159), (0, .nameAndType 160 161), (0, u "decideLane"), (0, u "(II)V"), (0, .methodref 8 163), (0, .nameAndType 164 161), (0, u "applyLane"), (0, .methodref 8 166), (0, .nameAndType 167 97), (0, u "safeBehind"), (0, .methodref 8 169), (0, .nameAndType 170 171), (0, u "gap"), (0, u "(II)I"), (0, .methodref 8 173), (0, .nameAndType 174 63), (0, u "candGap"), (0, .fieldref 8 176), (0, .nameAndType 177 111), (0, u "laneChanges"), (0, .methodref 8 179), (0, .nameAndType 180 161), (0, u "speedOf"), (0, .methodref 8 182), (0, .nameAndType 183 184), (0, u "draw"), (0, u "()I"), (0, .methodref 8 186), (0, .nameAndType 187 161), (0, u "moveOne"), (0, .fieldref 8 189), (0, .nameAndType 190 111), (0, u "distance"), (0, .methodref 8 192), (0, .nameAndType 193 63), (0, u "exitPoint"), (0, .methodref 8 195), (0, .nameAndType 196 161), (0, u "countPath"), (0, .fieldref 8 198), (0, .nameAndType 199 111), (0, u "exited"), (0, .fieldref 8 201), (0, .nameAndType 202 111), (0, u "signalPasses"), (0, .fieldref 8 204), (0, .nameAndType 205 111), (0, u "merges"), (0, .fieldref 8 207), (0, .nameAndType 208 111), (0, u "vehSteps"), (0, .methodref 8 210), (0, .nameAndType 211 97), (0, u "validCell"), (0, .long 18446744073709551615), (1, u "CFG_SIGNAL"), (2, u "CFG_ONRAMP"), (1, u "CFG_OFFRAMP"), (1, u "CFG_SLOWDOWN"), (1, u "CFG_DETECTOR"), (1, u "STAT_TIME"), (1, u "STAT_PRESENT"), (0, u "STAT_ENTERED"), (0, u "STAT_EXITED"), (0, u "STAT_QUEUE"), (0, u "STAT_VEH_STEPS"), (0, u "STAT_DISTANCE"), (1, u "STAT_LANE_CHANGES"), (1, u "STAT_SIGNAL_PASSES"), (1, u "STAT_MERGES"), (1, u "DET_CELL"), (0, u "DET_COUNT"), (0, u "DET_OCC"), (0, u "DET_SPEED"), (0, u "DET_SAMPLES"), (0, u "QUEUE_CAP"), (1, u "MAX_STEPS"), (0, u "(IIII)V"), (3, u "configure"), (0, u "(IIII)Z"), (0, u "place"), (0, u "(IIIZ)Z"), (0, u "queueRamp"), (0, u "(Z)Z"), (0, u "step"), (0, u "cellSpeed"), (0, u "cellId"), (3, u "stat"), (0, u "(I)J")] 5

def k2c0 : Code := { maxStack := 5, maxLocals := 6, code := prog_1_method_1_code, exceptionTable := #[], attributes := #[] }
def k2m0 : Method := { name := "<init>", desc := "(IIII)V", sig := { parameters := [.int, .int, .int, .int], returnType := none }, accessFlags := 1, code := some k2c0 }
def k2c1 : Code := { maxStack := 4, maxLocals := 5, code := prog_1_method_2_code, exceptionTable := #[], attributes := #[] }
def k2m1 : Method := { name := "configure", desc := "(IIII)Z", sig := { parameters := [.int, .int, .int, .int], returnType := some .boolean }, accessFlags := 1, code := some k2c1 }
def k2c2 : Code := { maxStack := 2, maxLocals := 4, code := prog_1_method_3_code, exceptionTable := #[], attributes := #[] }
def k2m2 : Method := { name := "cfgSignal", desc := "(III)Z", sig := { parameters := [.int, .int, .int], returnType := some .boolean }, accessFlags := 2, code := some k2c2 }
def k2c3 : Code := { maxStack := 4, maxLocals := 3, code := prog_1_method_4_code, exceptionTable := #[], attributes := #[] }
def k2m3 : Method := { name := "cfgDetector", desc := "(II)Z", sig := { parameters := [.int, .int], returnType := some .boolean }, accessFlags := 2, code := some k2c3 }
def k2c4 : Code := { maxStack := 4, maxLocals := 6, code := prog_1_method_5_code, exceptionTable := #[], attributes := #[] }
def k2m4 : Method := { name := "place", desc := "(IIIZ)Z", sig := { parameters := [.int, .int, .int, .boolean], returnType := some .boolean }, accessFlags := 1, code := some k2c4 }
def k2c5 : Code := { maxStack := 5, maxLocals := 4, code := prog_1_method_6_code, exceptionTable := #[], attributes := #[] }
def k2m5 : Method := { name := "putVehicle", desc := "(IIZ)V", sig := { parameters := [.int, .int, .boolean], returnType := none }, accessFlags := 2, code := some k2c5 }
def k2c6 : Code := { maxStack := 3, maxLocals := 3, code := prog_1_method_7_code, exceptionTable := #[], attributes := #[] }
def k2m6 : Method := { name := "queueRamp", desc := "(Z)Z", sig := { parameters := [.boolean], returnType := some .boolean }, accessFlags := 1, code := some k2c6 }
def k2c7 : Code := { maxStack := 2, maxLocals := 3, code := prog_1_method_8_code, exceptionTable := #[], attributes := #[] }
def k2m7 : Method := { name := "step", desc := "(I)I", sig := { parameters := [.int], returnType := some .int }, accessFlags := 1, code := some k2c7 }
def k2c8 : Code := { maxStack := 5, maxLocals := 1, code := prog_1_method_9_code, exceptionTable := #[], attributes := #[] }
def k2m8 : Method := { name := "oneStep", desc := "()V", sig := { parameters := [], returnType := none }, accessFlags := 2, code := some k2c8 }
def k2c9 : Code := { maxStack := 4, maxLocals := 2, code := prog_1_method_10_code, exceptionTable := #[], attributes := #[] }
def k2m9 : Method := { name := "isRed", desc := "()Z", sig := { parameters := [], returnType := some .boolean }, accessFlags := 1, code := some k2c9 }
def k2c10 : Code := { maxStack := 2, maxLocals := 4, code := prog_1_method_11_code, exceptionTable := #[], attributes := #[] }
def k2m10 : Method := { name := "clamp", desc := "(III)I", sig := { parameters := [.int, .int, .int], returnType := some .int }, accessFlags := 2, code := some k2c10 }
def k2c11 : Code := { maxStack := 2, maxLocals := 3, code := prog_1_method_12_code, exceptionTable := #[], attributes := #[] }
def k2m11 : Method := { name := "wrap", desc := "(I)I", sig := { parameters := [.int], returnType := some .int }, accessFlags := 2, code := some k2c11 }
def k2c12 : Code := { maxStack := 3, maxLocals := 1, code := prog_1_method_13_code, exceptionTable := #[], attributes := #[] }
def k2m12 : Method := { name := "draw", desc := "()I", sig := { parameters := [], returnType := some .int }, accessFlags := 2, code := some k2c12 }
def k2c13 : Code := { maxStack := 3, maxLocals := 3, code := prog_1_method_14_code, exceptionTable := #[], attributes := #[] }
def k2m13 : Method := { name := "blocked", desc := "(II)Z", sig := { parameters := [.int, .int], returnType := some .boolean }, accessFlags := 2, code := some k2c13 }
def k2c14 : Code := { maxStack := 3, maxLocals := 6, code := prog_1_method_15_code, exceptionTable := #[], attributes := #[] }
def k2m14 : Method := { name := "gap", desc := "(II)I", sig := { parameters := [.int, .int], returnType := some .int }, accessFlags := 2, code := some k2c14 }
def k2c15 : Code := { maxStack := 3, maxLocals := 6, code := prog_1_method_16_code, exceptionTable := #[], attributes := #[] }
def k2m15 : Method := { name := "safeBehind", desc := "(II)Z", sig := { parameters := [.int, .int], returnType := some .boolean }, accessFlags := 2, code := some k2c15 }
def k2c16 : Code := { maxStack := 3, maxLocals := 3, code := prog_1_method_17_code, exceptionTable := #[], attributes := #[] }
def k2m16 : Method := { name := "changeLanes", desc := "()V", sig := { parameters := [], returnType := none }, accessFlags := 2, code := some k2c16 }
def k2c17 : Code := { maxStack := 4, maxLocals := 9, code := prog_1_method_18_code, exceptionTable := #[], attributes := #[] }
def k2m17 : Method := { name := "decideLane", desc := "(II)V", sig := { parameters := [.int, .int], returnType := none }, accessFlags := 2, code := some k2c17 }
def k2c18 : Code := { maxStack := 3, maxLocals := 5, code := prog_1_method_19_code, exceptionTable := #[], attributes := #[] }
def k2m18 : Method := { name := "candGap", desc := "(III)I", sig := { parameters := [.int, .int, .int], returnType := some .int }, accessFlags := 2, code := some k2c18 }
def k2c19 : Code := { maxStack := 5, maxLocals := 6, code := prog_1_method_20_code, exceptionTable := #[], attributes := #[] }
def k2m19 : Method := { name := "applyLane", desc := "(II)V", sig := { parameters := [.int, .int], returnType := none }, accessFlags := 2, code := some k2c19 }
def k2c20 : Code := { maxStack := 3, maxLocals := 3, code := prog_1_method_21_code, exceptionTable := #[], attributes := #[] }
def k2m20 : Method := { name := "computeSpeeds", desc := "()V", sig := { parameters := [], returnType := none }, accessFlags := 2, code := some k2c20 }
def k2c21 : Code := { maxStack := 3, maxLocals := 9, code := prog_1_method_22_code, exceptionTable := #[], attributes := #[] }
def k2m21 : Method := { name := "speedOf", desc := "(II)V", sig := { parameters := [.int, .int], returnType := none }, accessFlags := 2, code := some k2c21 }
def k2c22 : Code := { maxStack := 4, maxLocals := 3, code := prog_1_method_23_code, exceptionTable := #[], attributes := #[] }
def k2m22 : Method := { name := "moveAll", desc := "()V", sig := { parameters := [], returnType := none }, accessFlags := 2, code := some k2c22 }
def k2c23 : Code := { maxStack := 5, maxLocals := 8, code := prog_1_method_24_code, exceptionTable := #[], attributes := #[] }
def k2m23 : Method := { name := "moveOne", desc := "(II)V", sig := { parameters := [.int, .int], returnType := none }, accessFlags := 2, code := some k2c23 }
def k2c24 : Code := { maxStack := 3, maxLocals := 5, code := prog_1_method_25_code, exceptionTable := #[], attributes := #[] }
def k2m24 : Method := { name := "exitPoint", desc := "(III)I", sig := { parameters := [.int, .int, .int], returnType := some .int }, accessFlags := 2, code := some k2c24 }
def k2c25 : Code := { maxStack := 6, maxLocals := 6, code := prog_1_method_26_code, exceptionTable := #[], attributes := #[] }
def k2m25 : Method := { name := "countPath", desc := "(II)V", sig := { parameters := [.int, .int], returnType := none }, accessFlags := 2, code := some k2c25 }
def k2c26 : Code := { maxStack := 5, maxLocals := 2, code := prog_1_method_27_code, exceptionTable := #[], attributes := #[] }
def k2m26 : Method := { name := "merge", desc := "()V", sig := { parameters := [], returnType := none }, accessFlags := 2, code := some k2c26 }
def k2c27 : Code := { maxStack := 6, maxLocals := 5, code := prog_1_method_28_code, exceptionTable := #[], attributes := #[] }
def k2m27 : Method := { name := "sample", desc := "()V", sig := { parameters := [], returnType := none }, accessFlags := 2, code := some k2c27 }
def k2c28 : Code := { maxStack := 2, maxLocals := 3, code := prog_1_method_29_code, exceptionTable := #[], attributes := #[] }
def k2m28 : Method := { name := "validCell", desc := "(II)Z", sig := { parameters := [.int, .int], returnType := some .boolean }, accessFlags := 2, code := some k2c28 }
def k2c29 : Code := { maxStack := 3, maxLocals := 4, code := prog_1_method_30_code, exceptionTable := #[], attributes := #[] }
def k2m29 : Method := { name := "cellSpeed", desc := "(II)I", sig := { parameters := [.int, .int], returnType := some .int }, accessFlags := 1, code := some k2c29 }
def k2c30 : Code := { maxStack := 3, maxLocals := 4, code := prog_1_method_31_code, exceptionTable := #[], attributes := #[] }
def k2m30 : Method := { name := "cellId", desc := "(II)I", sig := { parameters := [.int, .int], returnType := some .int }, accessFlags := 1, code := some k2c30 }
def k2c31 : Code := { maxStack := 2, maxLocals := 2, code := prog_1_method_34_code, exceptionTable := #[], attributes := #[] }
def k2m31 : Method := { name := "stat", desc := "(I)J", sig := { parameters := [.int], returnType := some .long }, accessFlags := 1, code := some k2c31 }
/-- RingRoadCA -/
def k2 : Class := { plain "RingRoadCA" (some 0) with
  accessFlags := 49
  interfaces := #[]
  cf := some (fileOf pool2 8 #[] #[{ accessFlags := 1, nameIndex := 5, descriptorIndex := 248, attributes := #[] }, { accessFlags := 1, nameIndex := 252, descriptorIndex := 253, attributes := #[] }, { accessFlags := 2, nameIndex := 89, descriptorIndex := 90, attributes := #[] }, { accessFlags := 2, nameIndex := 96, descriptorIndex := 97, attributes := #[] }, { accessFlags := 1, nameIndex := 254, descriptorIndex := 255, attributes := #[] }, { accessFlags := 2, nameIndex := 106, descriptorIndex := 107, attributes := #[] }, { accessFlags := 1, nameIndex := 256, descriptorIndex := 257, attributes := #[] }, { accessFlags := 1, nameIndex := 258, descriptorIndex := 154, attributes := #[] }, { accessFlags := 2, nameIndex := 123, descriptorIndex := 6, attributes := #[] }, { accessFlags := 1, nameIndex := 126, descriptorIndex := 127, attributes := #[] }, { accessFlags := 2, nameIndex := 62, descriptorIndex := 63, attributes := #[] }, { accessFlags := 2, nameIndex := 153, descriptorIndex := 154, attributes := #[] }, { accessFlags := 2, nameIndex := 183, descriptorIndex := 184, attributes := #[] }, { accessFlags := 2, nameIndex := 157, descriptorIndex := 97, attributes := #[] }, { accessFlags := 2, nameIndex := 170, descriptorIndex := 171, attributes := #[] }, { accessFlags := 2, nameIndex := 167, descriptorIndex := 97, attributes := #[] }, { accessFlags := 2, nameIndex := 134, descriptorIndex := 6, attributes := #[] }, { accessFlags := 2, nameIndex := 160, descriptorIndex := 161, attributes := #[] }, { accessFlags := 2, nameIndex := 174, descriptorIndex := 63, attributes := #[] }, { accessFlags := 2, nameIndex := 164, descriptorIndex := 161, attributes := #[] }, { accessFlags := 2, nameIndex := 137, descriptorIndex := 6, attributes := #[] }, { accessFlags := 2, nameIndex := 180, descriptorIndex := 161, attributes := #[] }, { accessFlags := 2, nameIndex := 140, descriptorIndex := 6, attributes := #[] }, { accessFlags := 2, nameIndex := 187, descriptorIndex := 161, attributes := #[] }, { accessFlags := 2, nameIndex := 193, descriptorIndex := 63, attributes := #[] }, { accessFlags := 2, nameIndex := 196, descriptorIndex := 161, attributes := #[] }, { accessFlags := 2, nameIndex := 143, descriptorIndex := 6, attributes := #[] }, { accessFlags := 2, nameIndex := 146, descriptorIndex := 6, attributes := #[] }, { accessFlags := 2, nameIndex := 211, descriptorIndex := 97, attributes := #[] }, { accessFlags := 1, nameIndex := 259, descriptorIndex := 171, attributes := #[] }, { accessFlags := 1, nameIndex := 260, descriptorIndex := 171, attributes := #[] }, { accessFlags := 1, nameIndex := 264, descriptorIndex := 265, attributes := #[] }] 49 2 #[] #[{ accessFlags := 25, nameIndex := 214, descriptorIndex := 67, attributes := #[] }, { accessFlags := 25, nameIndex := 217, descriptorIndex := 67, attributes := #[] }, { accessFlags := 25, nameIndex := 219, descriptorIndex := 67, attributes := #[] }, { accessFlags := 25, nameIndex := 221, descriptorIndex := 67, attributes := #[] }, { accessFlags := 25, nameIndex := 223, descriptorIndex := 67, attributes := #[] }, { accessFlags := 25, nameIndex := 225, descriptorIndex := 67, attributes := #[] }, { accessFlags := 25, nameIndex := 227, descriptorIndex := 67, attributes := #[] }, { accessFlags := 25, nameIndex := 228, descriptorIndex := 67, attributes := #[] }, { accessFlags := 25, nameIndex := 229, descriptorIndex := 67, attributes := #[] }, { accessFlags := 25, nameIndex := 230, descriptorIndex := 67, attributes := #[] }, { accessFlags := 25, nameIndex := 231, descriptorIndex := 67, attributes := #[] }, { accessFlags := 25, nameIndex := 232, descriptorIndex := 67, attributes := #[] }, { accessFlags := 25, nameIndex := 234, descriptorIndex := 67, attributes := #[] }, { accessFlags := 25, nameIndex := 236, descriptorIndex := 67, attributes := #[] }, { accessFlags := 25, nameIndex := 238, descriptorIndex := 67, attributes := #[] }, { accessFlags := 25, nameIndex := 240, descriptorIndex := 67, attributes := #[] }, { accessFlags := 25, nameIndex := 241, descriptorIndex := 67, attributes := #[] }, { accessFlags := 25, nameIndex := 242, descriptorIndex := 67, attributes := #[] }, { accessFlags := 25, nameIndex := 243, descriptorIndex := 67, attributes := #[] }, { accessFlags := 25, nameIndex := 244, descriptorIndex := 67, attributes := #[] }, { accessFlags := 25, nameIndex := 245, descriptorIndex := 67, attributes := #[] }, { accessFlags := 25, nameIndex := 247, descriptorIndex := 67, attributes := #[] }, { accessFlags := 2, nameIndex := 66, descriptorIndex := 67, attributes := #[] }, { accessFlags := 2, nameIndex := 70, descriptorIndex := 67, attributes := #[] }, { accessFlags := 2, nameIndex := 73, descriptorIndex := 67, attributes := #[] }, { accessFlags := 2, nameIndex := 77, descriptorIndex := 67, attributes := #[] }, { accessFlags := 2, nameIndex := 80, descriptorIndex := 67, attributes := #[] }, { accessFlags := 2, nameIndex := 100, descriptorIndex := 67, attributes := #[] }, { accessFlags := 2, nameIndex := 103, descriptorIndex := 67, attributes := #[] }, { accessFlags := 2, nameIndex := 83, descriptorIndex := 67, attributes := #[] }, { accessFlags := 2, nameIndex := 86, descriptorIndex := 67, attributes := #[] }, { accessFlags := 2, nameIndex := 93, descriptorIndex := 67, attributes := #[] }, { accessFlags := 2, nameIndex := 130, descriptorIndex := 131, attributes := #[] }, { accessFlags := 2, nameIndex := 149, descriptorIndex := 111, attributes := #[] }, { accessFlags := 2, nameIndex := 114, descriptorIndex := 67, attributes := #[] }, { accessFlags := 2, nameIndex := 110, descriptorIndex := 111, attributes := #[] }, { accessFlags := 2, nameIndex := 199, descriptorIndex := 111, attributes := #[] }, { accessFlags := 2, nameIndex := 208, descriptorIndex := 111, attributes := #[] }, { accessFlags := 2, nameIndex := 190, descriptorIndex := 111, attributes := #[] }, { accessFlags := 2, nameIndex := 177, descriptorIndex := 111, attributes := #[] }, { accessFlags := 2, nameIndex := 202, descriptorIndex := 111, attributes := #[] }, { accessFlags := 2, nameIndex := 205, descriptorIndex := 111, attributes := #[] }, { accessFlags := 2, nameIndex := 11, descriptorIndex := 12, attributes := #[] }, { accessFlags := 2, nameIndex := 120, descriptorIndex := 67, attributes := #[] }, { accessFlags := 2, nameIndex := 117, descriptorIndex := 67, attributes := #[] }, { accessFlags := 2, nameIndex := 15, descriptorIndex := 12, attributes := #[] }, { accessFlags := 2, nameIndex := 18, descriptorIndex := 19, attributes := #[] }, { accessFlags := 2, nameIndex := 22, descriptorIndex := 19, attributes := #[] }, { accessFlags := 2, nameIndex := 25, descriptorIndex := 12, attributes := #[] }, { accessFlags := 2, nameIndex := 28, descriptorIndex := 12, attributes := #[] }, { accessFlags := 2, nameIndex := 31, descriptorIndex := 19, attributes := #[] }, { accessFlags := 2, nameIndex := 34, descriptorIndex := 19, attributes := #[] }, { accessFlags := 2, nameIndex := 37, descriptorIndex := 12, attributes := #[] }, { accessFlags := 2, nameIndex := 40, descriptorIndex := 19, attributes := #[] }, { accessFlags := 2, nameIndex := 43, descriptorIndex := 19, attributes := #[] }, { accessFlags := 2, nameIndex := 46, descriptorIndex := 19, attributes := #[] }, { accessFlags := 2, nameIndex := 49, descriptorIndex := 50, attributes := #[] }, { accessFlags := 2, nameIndex := 53, descriptorIndex := 50, attributes := #[] }, { accessFlags := 2, nameIndex := 56, descriptorIndex := 50, attributes := #[] }, { accessFlags := 2, nameIndex := 59, descriptorIndex := 50, attributes := #[] }])
  fields := #[{ name := "CFG_SIGNAL", type := .int, accessFlags := 25, slot := 0, constantValue := 0 }, { name := "CFG_ONRAMP", type := .int, accessFlags := 25, slot := 1, constantValue := 0 }, { name := "CFG_OFFRAMP", type := .int, accessFlags := 25, slot := 2, constantValue := 0 }, { name := "CFG_SLOWDOWN", type := .int, accessFlags := 25, slot := 3, constantValue := 0 }, { name := "CFG_DETECTOR", type := .int, accessFlags := 25, slot := 4, constantValue := 0 }, { name := "STAT_TIME", type := .int, accessFlags := 25, slot := 5, constantValue := 0 }, { name := "STAT_PRESENT", type := .int, accessFlags := 25, slot := 6, constantValue := 0 }, { name := "STAT_ENTERED", type := .int, accessFlags := 25, slot := 7, constantValue := 0 }, { name := "STAT_EXITED", type := .int, accessFlags := 25, slot := 8, constantValue := 0 }, { name := "STAT_QUEUE", type := .int, accessFlags := 25, slot := 9, constantValue := 0 }, { name := "STAT_VEH_STEPS", type := .int, accessFlags := 25, slot := 10, constantValue := 0 }, { name := "STAT_DISTANCE", type := .int, accessFlags := 25, slot := 11, constantValue := 0 }, { name := "STAT_LANE_CHANGES", type := .int, accessFlags := 25, slot := 12, constantValue := 0 }, { name := "STAT_SIGNAL_PASSES", type := .int, accessFlags := 25, slot := 13, constantValue := 0 }, { name := "STAT_MERGES", type := .int, accessFlags := 25, slot := 14, constantValue := 0 }, { name := "DET_CELL", type := .int, accessFlags := 25, slot := 15, constantValue := 0 }, { name := "DET_COUNT", type := .int, accessFlags := 25, slot := 16, constantValue := 0 }, { name := "DET_OCC", type := .int, accessFlags := 25, slot := 17, constantValue := 0 }, { name := "DET_SPEED", type := .int, accessFlags := 25, slot := 18, constantValue := 0 }, { name := "DET_SAMPLES", type := .int, accessFlags := 25, slot := 19, constantValue := 0 }, { name := "QUEUE_CAP", type := .int, accessFlags := 25, slot := 20, constantValue := 0 }, { name := "MAX_STEPS", type := .int, accessFlags := 25, slot := 21, constantValue := 0 }, { name := "len", type := .int, accessFlags := 2, slot := 0, constantValue := 0 }, { name := "nLanes", type := .int, accessFlags := 2, slot := 1, constantValue := 0 }, { name := "vMax", type := .int, accessFlags := 2, slot := 2, constantValue := 0 }, { name := "rnd", type := .int, accessFlags := 2, slot := 3, constantValue := 0 }, { name := "sigCell", type := .int, accessFlags := 2, slot := 4, constantValue := 0 }, { name := "green", type := .int, accessFlags := 2, slot := 5, constantValue := 0 }, { name := "redLen", type := .int, accessFlags := 2, slot := 6, constantValue := 0 }, { name := "onramp", type := .int, accessFlags := 2, slot := 7, constantValue := 0 }, { name := "offramp", type := .int, accessFlags := 2, slot := 8, constantValue := 0 }, { name := "slow", type := .int, accessFlags := 2, slot := 9, constantValue := 0 }, { name := "curRed", type := .boolean, accessFlags := 2, slot := 10, constantValue := 0 }, { name := "time", type := .long, accessFlags := 2, slot := 11, constantValue := 0 }, { name := "present", type := .int, accessFlags := 2, slot := 12, constantValue := 0 }, { name := "entered", type := .long, accessFlags := 2, slot := 13, constantValue := 0 }, { name := "exited", type := .long, accessFlags := 2, slot := 14, constantValue := 0 }, { name := "vehSteps", type := .long, accessFlags := 2, slot := 15, constantValue := 0 }, { name := "distance", type := .long, accessFlags := 2, slot := 16, constantValue := 0 }, { name := "laneChanges", type := .long, accessFlags := 2, slot := 17, constantValue := 0 }, { name := "signalPasses", type := .long, accessFlags := 2, slot := 18, constantValue := 0 }, { name := "merges", type := .long, accessFlags := 2, slot := 19, constantValue := 0 }, { name := "qEx", type := (.array .boolean), accessFlags := 2, slot := 20, constantValue := 0 }, { name := "qHead", type := .int, accessFlags := 2, slot := 21, constantValue := 0 }, { name := "qCount", type := .int, accessFlags := 2, slot := 22, constantValue := 0 }, { name := "occ", type := (.array .boolean), accessFlags := 2, slot := 23, constantValue := 0 }, { name := "spd", type := (.array .int), accessFlags := 2, slot := 24, constantValue := 0 }, { name := "vid", type := (.array .int), accessFlags := 2, slot := 25, constantValue := 0 }, { name := "vex", type := (.array .boolean), accessFlags := 2, slot := 26, constantValue := 0 }, { name := "nOcc", type := (.array .boolean), accessFlags := 2, slot := 27, constantValue := 0 }, { name := "nSpd", type := (.array .int), accessFlags := 2, slot := 28, constantValue := 0 }, { name := "nId", type := (.array .int), accessFlags := 2, slot := 29, constantValue := 0 }, { name := "nEx", type := (.array .boolean), accessFlags := 2, slot := 30, constantValue := 0 }, { name := "dest", type := (.array .int), accessFlags := 2, slot := 31, constantValue := 0 }, { name := "nv", type := (.array .int), accessFlags := 2, slot := 32, constantValue := 0 }, { name := "detCell", type := (.array .int), accessFlags := 2, slot := 33, constantValue := 0 }, { name := "detCount", type := (.array .long), accessFlags := 2, slot := 34, constantValue := 0 }, { name := "detOcc", type := (.array .long), accessFlags := 2, slot := 35, constantValue := 0 }, { name := "detSpeed", type := (.array .long), accessFlags := 2, slot := 36, constantValue := 0 }, { name := "detSamples", type := (.array .long), accessFlags := 2, slot := 37, constantValue := 0 }]
  methods := #[k2m0, k2m1, k2m2, k2m3, k2m4, k2m5, k2m6, k2m7, k2m8, k2m9, k2m10, k2m11, k2m12, k2m13, k2m14, k2m15, k2m16, k2m17, k2m18, k2m19, k2m20, k2m21, k2m22, k2m23, k2m24, k2m25, k2m26, k2m27, k2m28, k2m29, k2m30, k2m31]
  instanceTypes := #[.int, .int, .int, .int, .int, .int, .int, .int, .int, .int, .boolean, .long, .int, .long, .long, .long, .long, .long, .long, .long, (.array .boolean), .int, .int, (.array .boolean), (.array .int), (.array .int), (.array .boolean), (.array .boolean), (.array .int), (.array .int), (.array .boolean), (.array .int), (.array .int), (.array .int), (.array .long), (.array .long), (.array .long), (.array .long)]
  staticTypes := #[.int, .int, .int, .int, .int, .int, .int, .int, .int, .int, .int, .int, .int, .int, .int, .int, .int, .int, .int, .int, .int, .int]
  resolved := Array.replicate 271 none
  statics := none }

def pool3 : Array CpInfo := pool [(1, u "java/lang/Cloneable"), (0, .class_ 1), (0, u "java/lang/Object"), (0, .class_ 3)] 3

/-- java/lang/Cloneable -/
def k3 : Class := { plain "java/lang/Cloneable" (some 0) with
  accessFlags := 1537
  interfaces := #[]
  cf := some (fileOf pool3 2 #[] #[] 1537 4 #[] #[])
  fields := #[]
  methods := #[]
  instanceTypes := #[]
  staticTypes := #[]
  resolved := Array.replicate 8 none
  statics := none }

def pool4 : Array CpInfo := pool [(1, u "java/io/Serializable"), (0, .class_ 1), (0, u "java/lang/Object"), (0, .class_ 3)] 3

/-- java/io/Serializable -/
def k4 : Class := { plain "java/io/Serializable" (some 0) with
  accessFlags := 1537
  interfaces := #[]
  cf := some (fileOf pool4 2 #[] #[] 1537 4 #[] #[])
  fields := #[]
  methods := #[]
  instanceTypes := #[]
  staticTypes := #[]
  resolved := Array.replicate 8 none
  statics := none }

/-- the primitive boolean -/
def k5 : Class := { plain "boolean" none with kind := .primitive 'Z', accessFlags := 0x411 }
/-- [Z -/
def k6 : Class := { plain "[Z" (some 0) with kind := .array 5 .boolean, interfaces := #[3, 4], accessFlags := 1041 }

/-- the primitive byte -/
def k7 : Class := { plain "byte" none with kind := .primitive 'B', accessFlags := 0x411 }
/-- [B -/
def k8 : Class := { plain "[B" (some 0) with kind := .array 7 .byte, interfaces := #[3, 4], accessFlags := 1041 }

/-- the primitive int -/
def k9 : Class := { plain "int" none with kind := .primitive 'I', accessFlags := 0x411 }
/-- [I -/
def k10 : Class := { plain "[I" (some 0) with kind := .array 9 .int, interfaces := #[3, 4], accessFlags := 1041 }

/-- the primitive long -/
def k11 : Class := { plain "long" none with kind := .primitive 'J', accessFlags := 0x411 }
/-- [J -/
def k12 : Class := { plain "[J" (some 0) with kind := .array 11 .long, interfaces := #[3, 4], accessFlags := 1041 }

def heap : Heap := #[{ cls := 10, slots := #[.int 0, .int 3, .int 5, .int 1], vm := .none }]
def classes : Array Class := #[k0, k1, k2, k3, k4, k5, k6, k7, k8, k9, k10, k11, k12]
def interned : List (Array UInt16 × Addr) := []
def slotsUsed : Nat := 4
def theMethod : MethodId := ⟨1, 1⟩
def args0 : Array Value := #[.ref 0]
def aboutOver (below : List Frame) : State where
  vm := { classes := classes, interned := interned.toArray }
  heap := heap
  slotsUsed := slotsUsed
  threads := #[{ frames := .invoking theMethod args0 :: below }]
def below0 : List Frame := [.native { method := ⟨0, 0⟩, args := #[] }]
def about1 : State := aboutOver below0
def p0 : Program := .bare "" "" ""
def e0 : Env := launch0.env 0 0 0
theorem w_frames : about1.frames = Frame.invoking theMethod args0 :: below0 := rfl
set_option maxRecDepth 65536 in
theorem w_args : argsFit about1.vm theMethod args0 = true := by decide +kernel
set_option maxRecDepth 65536 in
theorem w_heap : heapFits about1 = true := by decide +kernel
set_option maxRecDepth 65536 in
theorem w_runnable : about1.curStatus? = some .runnable := by decide +kernel
set_option maxRecDepth 65536 in
theorem w_alone : about1.alone = true := by decide +kernel
set_option maxRecDepth 65536 in
theorem w_named : about1.methodNamed? x = some theMethod := by decide +kernel
set_option maxRecDepth 65536 in
theorem w_hears : about1.hears theMethod below0 = true := by decide +kernel
set_option maxRecDepth 65536 in
theorem w_ripe : about1.ripe theMethod args0 below0 = true := by decide +kernel
theorem w_running : about1.status = .running := rfl
set_option maxRecDepth 65536 in
theorem w_room : about1.hasRoom e0.platform room_1 = true :=
  launch0.hasRoom_least _ room_1 (by decide +kernel) (by decide +kernel) (by decide +kernel) (by decide +kernel) (by decide +kernel) (by decide +kernel)
theorem allAtoms_all (ts : List Jvm.Cond) (a : Array Jvm.Value) (st : Jvm.State) : (allAtoms ts).before a st = ts.all (fun c => c.before a st) := by
  induction ts with
  | nil => rfl
  | cons c t ih =>
    show (Jvm.Cond.and c (allAtoms t)).before a st = _
    rw [Jvm.Cond.before_and, ih, List.all_cons]
def words1 : List Jvm.Cond := Jvm.Cond.code x code maxLocals ret :: tables_1
/-- a 'code' word, met by the world's own term for the bytes: nothing is compared byte by byte -/
theorem code_word {y : MethodName} {bytes : ByteArray} {mx : Nat} {rt : Option FieldType} {a : Array Value} {s : State} {m : MethodId} {meth : Method} {c : Code} (h1 : s.methodNamed? y = some m) (h2 : s.vm.method? m = some meth) (h3 : meth.code = some c) (h4 : c.code = bytes)
    (h5 : (c.maxLocals == mx && c.exceptionTable.isEmpty && decide (c.maxStack ≤ mostOperands) && decide (meth.sig.returnType = rt) && !meth.locks && decide (parseMethodDescriptor y.desc = some meth.sig)) = true) : (Jvm.Cond.code y bytes mx rt).before a s = true := by
  simp only [Bool.and_eq_true, beq_iff_eq, Bool.not_eq_true', decide_eq_true_eq] at h5
  obtain ⟨⟨⟨⟨⟨g1, g2⟩, g3⟩, g4⟩, g5⟩, g6⟩ := h5
  simp [Cond.before, Cond.holds, Cond.value, h1, h2, h3, h4, g1, g2, g3, g4, g5, g6]
def isCode : Jvm.Cond → Bool
  | .code _ _ _ _ => true
  | _ => false
theorem all_split {L : List Jvm.Cond} {P : Jvm.Cond → Bool} (h1 : L.all (fun c => isCode c || P c) = true) (h2 : ∀ c ∈ L.filter isCode, P c = true) : L.all P = true := by
  refine List.all_eq_true.mpr fun c hc => ?_
  have h := List.all_eq_true.mp h1 c hc
  rcases Bool.eq_false_or_eq_true (isCode c) with hi | hi
  · exact h2 c (List.mem_filter.mpr ⟨hc, hi⟩)
  · simpa [hi] using h
set_option maxRecDepth 65536 in
theorem w_c0 : (Jvm.Cond.code x code maxLocals ret).before args0 about1 = true := code_word (m := ⟨1, 1⟩) (meth := k1m1) (c := k1c1) (by decide +kernel) rfl rfl rfl (by decide +kernel)
set_option maxRecDepth 65536 in
theorem w_c1 : (Jvm.Cond.code ({ cls := "RingRoadCA", name := "<init>", desc := "(IIII)V" } : Jvm.MethodName) prog_1_method_1_code (6 : Nat) (Option.none : Option Jvm.ClassFile.FieldType)).before args0 about1 = true := code_word (m := ⟨2, 0⟩) (meth := k2m0) (c := k2c0) (by decide +kernel) rfl rfl rfl (by decide +kernel)
set_option maxRecDepth 65536 in
theorem w_c2 : (Jvm.Cond.code ({ cls := "java/lang/Object", name := "<init>", desc := "()V" } : Jvm.MethodName) object_method_1_code (1 : Nat) (Option.none : Option Jvm.ClassFile.FieldType)).before args0 about1 = true := code_word (m := ⟨0, 0⟩) (meth := k0m0) (c := k0c0) (by decide +kernel) rfl rfl rfl (by decide +kernel)
set_option maxRecDepth 65536 in
theorem w_c3 : (Jvm.Cond.code ({ cls := "RingRoadCA", name := "clamp", desc := "(III)I" } : Jvm.MethodName) prog_1_method_11_code (4 : Nat) (Option.some Jvm.ClassFile.FieldType.int)).before args0 about1 = true := code_word (m := ⟨2, 10⟩) (meth := k2m10) (c := k2c10) (by decide +kernel) rfl rfl rfl (by decide +kernel)
set_option maxRecDepth 65536 in
theorem w_c4 : (Jvm.Cond.code ({ cls := "RingRoadCA", name := "step", desc := "(I)I" } : Jvm.MethodName) prog_1_method_8_code (3 : Nat) (Option.some Jvm.ClassFile.FieldType.int)).before args0 about1 = true := code_word (m := ⟨2, 7⟩) (meth := k2m7) (c := k2c7) (by decide +kernel) rfl rfl rfl (by decide +kernel)
set_option maxRecDepth 65536 in
theorem w_c5 : (Jvm.Cond.code ({ cls := "RingRoadCA", name := "oneStep", desc := "()V" } : Jvm.MethodName) prog_1_method_9_code (1 : Nat) (Option.none : Option Jvm.ClassFile.FieldType)).before args0 about1 = true := code_word (m := ⟨2, 8⟩) (meth := k2m8) (c := k2c8) (by decide +kernel) rfl rfl rfl (by decide +kernel)
set_option maxRecDepth 65536 in
theorem w_c6 : (Jvm.Cond.code ({ cls := "RingRoadCA", name := "isRed", desc := "()Z" } : Jvm.MethodName) prog_1_method_10_code (2 : Nat) (Option.some Jvm.ClassFile.FieldType.boolean)).before args0 about1 = true := code_word (m := ⟨2, 9⟩) (meth := k2m9) (c := k2c9) (by decide +kernel) rfl rfl rfl (by decide +kernel)
set_option maxRecDepth 65536 in
theorem w_c7 : (Jvm.Cond.code ({ cls := "RingRoadCA", name := "changeLanes", desc := "()V" } : Jvm.MethodName) prog_1_method_17_code (3 : Nat) (Option.none : Option Jvm.ClassFile.FieldType)).before args0 about1 = true := code_word (m := ⟨2, 16⟩) (meth := k2m16) (c := k2c16) (by decide +kernel) rfl rfl rfl (by decide +kernel)
set_option maxRecDepth 65536 in
theorem w_c8 : (Jvm.Cond.code ({ cls := "RingRoadCA", name := "applyLane", desc := "(II)V" } : Jvm.MethodName) prog_1_method_20_code (6 : Nat) (Option.none : Option Jvm.ClassFile.FieldType)).before args0 about1 = true := code_word (m := ⟨2, 19⟩) (meth := k2m19) (c := k2c19) (by decide +kernel) rfl rfl rfl (by decide +kernel)
set_option maxRecDepth 65536 in
theorem w_c9 : (Jvm.Cond.code ({ cls := "RingRoadCA", name := "computeSpeeds", desc := "()V" } : Jvm.MethodName) prog_1_method_21_code (3 : Nat) (Option.none : Option Jvm.ClassFile.FieldType)).before args0 about1 = true := code_word (m := ⟨2, 20⟩) (meth := k2m20) (c := k2c20) (by decide +kernel) rfl rfl rfl (by decide +kernel)
set_option maxRecDepth 65536 in
theorem w_c10 : (Jvm.Cond.code ({ cls := "RingRoadCA", name := "moveAll", desc := "()V" } : Jvm.MethodName) prog_1_method_23_code (3 : Nat) (Option.none : Option Jvm.ClassFile.FieldType)).before args0 about1 = true := code_word (m := ⟨2, 22⟩) (meth := k2m22) (c := k2c22) (by decide +kernel) rfl rfl rfl (by decide +kernel)
set_option maxRecDepth 65536 in
theorem w_c11 : (Jvm.Cond.code ({ cls := "RingRoadCA", name := "merge", desc := "()V" } : Jvm.MethodName) prog_1_method_27_code (2 : Nat) (Option.none : Option Jvm.ClassFile.FieldType)).before args0 about1 = true := code_word (m := ⟨2, 26⟩) (meth := k2m26) (c := k2c26) (by decide +kernel) rfl rfl rfl (by decide +kernel)
set_option maxRecDepth 65536 in
theorem w_c12 : (Jvm.Cond.code ({ cls := "RingRoadCA", name := "sample", desc := "()V" } : Jvm.MethodName) prog_1_method_28_code (5 : Nat) (Option.none : Option Jvm.ClassFile.FieldType)).before args0 about1 = true := code_word (m := ⟨2, 27⟩) (meth := k2m27) (c := k2c27) (by decide +kernel) rfl rfl rfl (by decide +kernel)
set_option maxRecDepth 65536 in
theorem w_c13 : (Jvm.Cond.code ({ cls := "RingRoadCAL4", name := "ok", desc := "(LRingRoadCA;)Z" } : Jvm.MethodName) method_3_code (15 : Nat) (Option.some Jvm.ClassFile.FieldType.boolean)).before args0 about1 = true := code_word (m := ⟨1, 2⟩) (meth := k1m2) (c := k1c2) (by decide +kernel) rfl rfl rfl (by decide +kernel)
set_option maxRecDepth 65536 in
theorem w_c14 : (Jvm.Cond.code ({ cls := "RingRoadCA", name := "stat", desc := "(I)J" } : Jvm.MethodName) prog_1_method_34_code (2 : Nat) (Option.some Jvm.ClassFile.FieldType.long)).before args0 about1 = true := code_word (m := ⟨2, 31⟩) (meth := k2m31) (c := k2c31) (by decide +kernel) rfl rfl rfl (by decide +kernel)
set_option maxRecDepth 65536 in
theorem w_c15 : (Jvm.Cond.code ({ cls := "RingRoadCA", name := "cellSpeed", desc := "(II)I" } : Jvm.MethodName) prog_1_method_30_code (4 : Nat) (Option.some Jvm.ClassFile.FieldType.int)).before args0 about1 = true := code_word (m := ⟨2, 29⟩) (meth := k2m29) (c := k2c29) (by decide +kernel) rfl rfl rfl (by decide +kernel)
set_option maxRecDepth 65536 in
theorem w_c16 : (Jvm.Cond.code ({ cls := "RingRoadCA", name := "validCell", desc := "(II)Z" } : Jvm.MethodName) prog_1_method_29_code (3 : Nat) (Option.some Jvm.ClassFile.FieldType.boolean)).before args0 about1 = true := code_word (m := ⟨2, 28⟩) (meth := k2m28) (c := k2c28) (by decide +kernel) rfl rfl rfl (by decide +kernel)
set_option maxRecDepth 65536 in
theorem w_c17 : (Jvm.Cond.code ({ cls := "RingRoadCA", name := "configure", desc := "(IIII)Z" } : Jvm.MethodName) prog_1_method_2_code (5 : Nat) (Option.some Jvm.ClassFile.FieldType.boolean)).before args0 about1 = true := code_word (m := ⟨2, 1⟩) (meth := k2m1) (c := k2c1) (by decide +kernel) rfl rfl rfl (by decide +kernel)
set_option maxRecDepth 65536 in
theorem w_c18 : (Jvm.Cond.code ({ cls := "RingRoadCA", name := "queueRamp", desc := "(Z)Z" } : Jvm.MethodName) prog_1_method_7_code (3 : Nat) (Option.some Jvm.ClassFile.FieldType.boolean)).before args0 about1 = true := code_word (m := ⟨2, 6⟩) (meth := k2m6) (c := k2c6) (by decide +kernel) rfl rfl rfl (by decide +kernel)
set_option maxRecDepth 65536 in
theorem w_c19 : (Jvm.Cond.code ({ cls := "RingRoadCA", name := "place", desc := "(IIIZ)Z" } : Jvm.MethodName) prog_1_method_5_code (6 : Nat) (Option.some Jvm.ClassFile.FieldType.boolean)).before args0 about1 = true := code_word (m := ⟨2, 4⟩) (meth := k2m4) (c := k2c4) (by decide +kernel) rfl rfl rfl (by decide +kernel)
set_option maxRecDepth 65536 in
theorem w_c20 : (Jvm.Cond.code ({ cls := "RingRoadCA", name := "putVehicle", desc := "(IIZ)V" } : Jvm.MethodName) prog_1_method_6_code (4 : Nat) (Option.none : Option Jvm.ClassFile.FieldType)).before args0 about1 = true := code_word (m := ⟨2, 5⟩) (meth := k2m5) (c := k2c5) (by decide +kernel) rfl rfl rfl (by decide +kernel)
set_option maxRecDepth 65536 in
theorem w_c21 : (Jvm.Cond.code ({ cls := "RingRoadCA", name := "cellId", desc := "(II)I" } : Jvm.MethodName) prog_1_method_31_code (4 : Nat) (Option.some Jvm.ClassFile.FieldType.int)).before args0 about1 = true := code_word (m := ⟨2, 30⟩) (meth := k2m30) (c := k2c30) (by decide +kernel) rfl rfl rfl (by decide +kernel)
set_option maxRecDepth 65536 in
theorem w_c22 : (Jvm.Cond.code ({ cls := "RingRoadCA", name := "decideLane", desc := "(II)V" } : Jvm.MethodName) prog_1_method_18_code (9 : Nat) (Option.none : Option Jvm.ClassFile.FieldType)).before args0 about1 = true := code_word (m := ⟨2, 17⟩) (meth := k2m17) (c := k2c17) (by decide +kernel) rfl rfl rfl (by decide +kernel)
set_option maxRecDepth 65536 in
theorem w_c23 : (Jvm.Cond.code ({ cls := "RingRoadCA", name := "safeBehind", desc := "(II)Z" } : Jvm.MethodName) prog_1_method_16_code (6 : Nat) (Option.some Jvm.ClassFile.FieldType.boolean)).before args0 about1 = true := code_word (m := ⟨2, 15⟩) (meth := k2m15) (c := k2c15) (by decide +kernel) rfl rfl rfl (by decide +kernel)
set_option maxRecDepth 65536 in
theorem w_c24 : (Jvm.Cond.code ({ cls := "RingRoadCA", name := "wrap", desc := "(I)I" } : Jvm.MethodName) prog_1_method_12_code (3 : Nat) (Option.some Jvm.ClassFile.FieldType.int)).before args0 about1 = true := code_word (m := ⟨2, 11⟩) (meth := k2m11) (c := k2c11) (by decide +kernel) rfl rfl rfl (by decide +kernel)
set_option maxRecDepth 65536 in
theorem w_c25 : (Jvm.Cond.code ({ cls := "RingRoadCA", name := "speedOf", desc := "(II)V" } : Jvm.MethodName) prog_1_method_22_code (9 : Nat) (Option.none : Option Jvm.ClassFile.FieldType)).before args0 about1 = true := code_word (m := ⟨2, 21⟩) (meth := k2m21) (c := k2c21) (by decide +kernel) rfl rfl rfl (by decide +kernel)
set_option maxRecDepth 65536 in
theorem w_c26 : (Jvm.Cond.code ({ cls := "RingRoadCA", name := "gap", desc := "(II)I" } : Jvm.MethodName) prog_1_method_15_code (6 : Nat) (Option.some Jvm.ClassFile.FieldType.int)).before args0 about1 = true := code_word (m := ⟨2, 14⟩) (meth := k2m14) (c := k2c14) (by decide +kernel) rfl rfl rfl (by decide +kernel)
set_option maxRecDepth 65536 in
theorem w_c27 : (Jvm.Cond.code ({ cls := "RingRoadCA", name := "blocked", desc := "(II)Z" } : Jvm.MethodName) prog_1_method_14_code (3 : Nat) (Option.some Jvm.ClassFile.FieldType.boolean)).before args0 about1 = true := code_word (m := ⟨2, 13⟩) (meth := k2m13) (c := k2c13) (by decide +kernel) rfl rfl rfl (by decide +kernel)
set_option maxRecDepth 65536 in
theorem w_c28 : (Jvm.Cond.code ({ cls := "RingRoadCA", name := "draw", desc := "()I" } : Jvm.MethodName) prog_1_method_13_code (1 : Nat) (Option.some Jvm.ClassFile.FieldType.int)).before args0 about1 = true := code_word (m := ⟨2, 12⟩) (meth := k2m12) (c := k2c12) (by decide +kernel) rfl rfl rfl (by decide +kernel)
set_option maxRecDepth 65536 in
theorem w_c29 : (Jvm.Cond.code ({ cls := "RingRoadCA", name := "moveOne", desc := "(II)V" } : Jvm.MethodName) prog_1_method_24_code (8 : Nat) (Option.none : Option Jvm.ClassFile.FieldType)).before args0 about1 = true := code_word (m := ⟨2, 23⟩) (meth := k2m23) (c := k2c23) (by decide +kernel) rfl rfl rfl (by decide +kernel)
set_option maxRecDepth 65536 in
theorem w_c30 : (Jvm.Cond.code ({ cls := "RingRoadCA", name := "exitPoint", desc := "(III)I" } : Jvm.MethodName) prog_1_method_25_code (5 : Nat) (Option.some Jvm.ClassFile.FieldType.int)).before args0 about1 = true := code_word (m := ⟨2, 24⟩) (meth := k2m24) (c := k2c24) (by decide +kernel) rfl rfl rfl (by decide +kernel)
set_option maxRecDepth 65536 in
theorem w_c31 : (Jvm.Cond.code ({ cls := "RingRoadCA", name := "countPath", desc := "(II)V" } : Jvm.MethodName) prog_1_method_26_code (6 : Nat) (Option.none : Option Jvm.ClassFile.FieldType)).before args0 about1 = true := code_word (m := ⟨2, 25⟩) (meth := k2m25) (c := k2c25) (by decide +kernel) rfl rfl rfl (by decide +kernel)
set_option maxRecDepth 65536 in
theorem w_c32 : (Jvm.Cond.code ({ cls := "RingRoadCA", name := "candGap", desc := "(III)I" } : Jvm.MethodName) prog_1_method_19_code (5 : Nat) (Option.some Jvm.ClassFile.FieldType.int)).before args0 about1 = true := code_word (m := ⟨2, 18⟩) (meth := k2m18) (c := k2c18) (by decide +kernel) rfl rfl rfl (by decide +kernel)
set_option maxRecDepth 65536 in
theorem w_c33 : (Jvm.Cond.code ({ cls := "RingRoadCA", name := "cfgSignal", desc := "(III)Z" } : Jvm.MethodName) prog_1_method_3_code (4 : Nat) (Option.some Jvm.ClassFile.FieldType.boolean)).before args0 about1 = true := code_word (m := ⟨2, 2⟩) (meth := k2m2) (c := k2c2) (by decide +kernel) rfl rfl rfl (by decide +kernel)
set_option maxRecDepth 65536 in
theorem w_c34 : (Jvm.Cond.code ({ cls := "RingRoadCA", name := "cfgDetector", desc := "(II)Z" } : Jvm.MethodName) prog_1_method_4_code (3 : Nat) (Option.some Jvm.ClassFile.FieldType.boolean)).before args0 about1 = true := code_word (m := ⟨2, 3⟩) (meth := k2m3) (c := k2c3) (by decide +kernel) rfl rfl rfl (by decide +kernel)
def codes1 : List Jvm.Cond := [Jvm.Cond.code x code maxLocals ret, Jvm.Cond.code ({ cls := "RingRoadCA", name := "<init>", desc := "(IIII)V" } : Jvm.MethodName) prog_1_method_1_code (6 : Nat) (Option.none : Option Jvm.ClassFile.FieldType), Jvm.Cond.code ({ cls := "java/lang/Object", name := "<init>", desc := "()V" } : Jvm.MethodName) object_method_1_code (1 : Nat) (Option.none : Option Jvm.ClassFile.FieldType), Jvm.Cond.code ({ cls := "RingRoadCA", name := "clamp", desc := "(III)I" } : Jvm.MethodName) prog_1_method_11_code (4 : Nat) (Option.some Jvm.ClassFile.FieldType.int), Jvm.Cond.code ({ cls := "RingRoadCA", name := "step", desc := "(I)I" } : Jvm.MethodName) prog_1_method_8_code (3 : Nat) (Option.some Jvm.ClassFile.FieldType.int), Jvm.Cond.code ({ cls := "RingRoadCA", name := "oneStep", desc := "()V" } : Jvm.MethodName) prog_1_method_9_code (1 : Nat) (Option.none : Option Jvm.ClassFile.FieldType), Jvm.Cond.code ({ cls := "RingRoadCA", name := "isRed", desc := "()Z" } : Jvm.MethodName) prog_1_method_10_code (2 : Nat) (Option.some Jvm.ClassFile.FieldType.boolean), Jvm.Cond.code ({ cls := "RingRoadCA", name := "changeLanes", desc := "()V" } : Jvm.MethodName) prog_1_method_17_code (3 : Nat) (Option.none : Option Jvm.ClassFile.FieldType), Jvm.Cond.code ({ cls := "RingRoadCA", name := "applyLane", desc := "(II)V" } : Jvm.MethodName) prog_1_method_20_code (6 : Nat) (Option.none : Option Jvm.ClassFile.FieldType), Jvm.Cond.code ({ cls := "RingRoadCA", name := "computeSpeeds", desc := "()V" } : Jvm.MethodName) prog_1_method_21_code (3 : Nat) (Option.none : Option Jvm.ClassFile.FieldType), Jvm.Cond.code ({ cls := "RingRoadCA", name := "moveAll", desc := "()V" } : Jvm.MethodName) prog_1_method_23_code (3 : Nat) (Option.none : Option Jvm.ClassFile.FieldType), Jvm.Cond.code ({ cls := "RingRoadCA", name := "merge", desc := "()V" } : Jvm.MethodName) prog_1_method_27_code (2 : Nat) (Option.none : Option Jvm.ClassFile.FieldType), Jvm.Cond.code ({ cls := "RingRoadCA", name := "sample", desc := "()V" } : Jvm.MethodName) prog_1_method_28_code (5 : Nat) (Option.none : Option Jvm.ClassFile.FieldType), Jvm.Cond.code ({ cls := "RingRoadCAL4", name := "ok", desc := "(LRingRoadCA;)Z" } : Jvm.MethodName) method_3_code (15 : Nat) (Option.some Jvm.ClassFile.FieldType.boolean), Jvm.Cond.code ({ cls := "RingRoadCA", name := "stat", desc := "(I)J" } : Jvm.MethodName) prog_1_method_34_code (2 : Nat) (Option.some Jvm.ClassFile.FieldType.long), Jvm.Cond.code ({ cls := "RingRoadCA", name := "cellSpeed", desc := "(II)I" } : Jvm.MethodName) prog_1_method_30_code (4 : Nat) (Option.some Jvm.ClassFile.FieldType.int), Jvm.Cond.code ({ cls := "RingRoadCA", name := "validCell", desc := "(II)Z" } : Jvm.MethodName) prog_1_method_29_code (3 : Nat) (Option.some Jvm.ClassFile.FieldType.boolean), Jvm.Cond.code ({ cls := "RingRoadCA", name := "configure", desc := "(IIII)Z" } : Jvm.MethodName) prog_1_method_2_code (5 : Nat) (Option.some Jvm.ClassFile.FieldType.boolean), Jvm.Cond.code ({ cls := "RingRoadCA", name := "queueRamp", desc := "(Z)Z" } : Jvm.MethodName) prog_1_method_7_code (3 : Nat) (Option.some Jvm.ClassFile.FieldType.boolean), Jvm.Cond.code ({ cls := "RingRoadCA", name := "place", desc := "(IIIZ)Z" } : Jvm.MethodName) prog_1_method_5_code (6 : Nat) (Option.some Jvm.ClassFile.FieldType.boolean), Jvm.Cond.code ({ cls := "RingRoadCA", name := "putVehicle", desc := "(IIZ)V" } : Jvm.MethodName) prog_1_method_6_code (4 : Nat) (Option.none : Option Jvm.ClassFile.FieldType), Jvm.Cond.code ({ cls := "RingRoadCA", name := "cellId", desc := "(II)I" } : Jvm.MethodName) prog_1_method_31_code (4 : Nat) (Option.some Jvm.ClassFile.FieldType.int), Jvm.Cond.code ({ cls := "RingRoadCA", name := "decideLane", desc := "(II)V" } : Jvm.MethodName) prog_1_method_18_code (9 : Nat) (Option.none : Option Jvm.ClassFile.FieldType), Jvm.Cond.code ({ cls := "RingRoadCA", name := "safeBehind", desc := "(II)Z" } : Jvm.MethodName) prog_1_method_16_code (6 : Nat) (Option.some Jvm.ClassFile.FieldType.boolean), Jvm.Cond.code ({ cls := "RingRoadCA", name := "wrap", desc := "(I)I" } : Jvm.MethodName) prog_1_method_12_code (3 : Nat) (Option.some Jvm.ClassFile.FieldType.int), Jvm.Cond.code ({ cls := "RingRoadCA", name := "speedOf", desc := "(II)V" } : Jvm.MethodName) prog_1_method_22_code (9 : Nat) (Option.none : Option Jvm.ClassFile.FieldType), Jvm.Cond.code ({ cls := "RingRoadCA", name := "gap", desc := "(II)I" } : Jvm.MethodName) prog_1_method_15_code (6 : Nat) (Option.some Jvm.ClassFile.FieldType.int), Jvm.Cond.code ({ cls := "RingRoadCA", name := "blocked", desc := "(II)Z" } : Jvm.MethodName) prog_1_method_14_code (3 : Nat) (Option.some Jvm.ClassFile.FieldType.boolean), Jvm.Cond.code ({ cls := "RingRoadCA", name := "draw", desc := "()I" } : Jvm.MethodName) prog_1_method_13_code (1 : Nat) (Option.some Jvm.ClassFile.FieldType.int), Jvm.Cond.code ({ cls := "RingRoadCA", name := "moveOne", desc := "(II)V" } : Jvm.MethodName) prog_1_method_24_code (8 : Nat) (Option.none : Option Jvm.ClassFile.FieldType), Jvm.Cond.code ({ cls := "RingRoadCA", name := "exitPoint", desc := "(III)I" } : Jvm.MethodName) prog_1_method_25_code (5 : Nat) (Option.some Jvm.ClassFile.FieldType.int), Jvm.Cond.code ({ cls := "RingRoadCA", name := "countPath", desc := "(II)V" } : Jvm.MethodName) prog_1_method_26_code (6 : Nat) (Option.none : Option Jvm.ClassFile.FieldType), Jvm.Cond.code ({ cls := "RingRoadCA", name := "candGap", desc := "(III)I" } : Jvm.MethodName) prog_1_method_19_code (5 : Nat) (Option.some Jvm.ClassFile.FieldType.int), Jvm.Cond.code ({ cls := "RingRoadCA", name := "cfgSignal", desc := "(III)Z" } : Jvm.MethodName) prog_1_method_3_code (4 : Nat) (Option.some Jvm.ClassFile.FieldType.boolean), Jvm.Cond.code ({ cls := "RingRoadCA", name := "cfgDetector", desc := "(II)Z" } : Jvm.MethodName) prog_1_method_4_code (3 : Nat) (Option.some Jvm.ClassFile.FieldType.boolean)]
set_option maxRecDepth 65536 in
theorem codes_eq : words1.filter isCode = codes1 := rfl
theorem w_codes : ∀ c ∈ words1.filter isCode, c.before args0 about1 = true := by
  rw [codes_eq]
  intro c hc
  simp only [codes1, List.mem_cons, List.not_mem_nil, or_false] at hc
  rcases hc with rfl | rfl | rfl | rfl | rfl | rfl | rfl | rfl | rfl | rfl | rfl | rfl | rfl | rfl | rfl | rfl | rfl | rfl | rfl | rfl | rfl | rfl | rfl | rfl | rfl | rfl | rfl | rfl | rfl | rfl | rfl | rfl | rfl | rfl | rfl
  · exact w_c0
  · exact w_c1
  · exact w_c2
  · exact w_c3
  · exact w_c4
  · exact w_c5
  · exact w_c6
  · exact w_c7
  · exact w_c8
  · exact w_c9
  · exact w_c10
  · exact w_c11
  · exact w_c12
  · exact w_c13
  · exact w_c14
  · exact w_c15
  · exact w_c16
  · exact w_c17
  · exact w_c18
  · exact w_c19
  · exact w_c20
  · exact w_c21
  · exact w_c22
  · exact w_c23
  · exact w_c24
  · exact w_c25
  · exact w_c26
  · exact w_c27
  · exact w_c28
  · exact w_c29
  · exact w_c30
  · exact w_c31
  · exact w_c32
  · exact w_c33
  · exact w_c34
set_option maxRecDepth 65536 in
theorem w_t1 : (words1.take 24).all (fun c => isCode c || c.before args0 about1) = true := by decide +kernel
set_option maxRecDepth 65536 in
theorem w_t2 : ((words1.drop 24).take 24).all (fun c => isCode c || c.before args0 about1) = true := by decide +kernel
set_option maxRecDepth 65536 in
theorem w_t3 : (((words1.drop 24).drop 24).take 24).all (fun c => isCode c || c.before args0 about1) = true := by decide +kernel
set_option maxRecDepth 65536 in
theorem w_t4 : ((((words1.drop 24).drop 24).drop 24).take 24).all (fun c => isCode c || c.before args0 about1) = true := by decide +kernel
set_option maxRecDepth 65536 in
theorem w_t5 : (((((words1.drop 24).drop 24).drop 24).drop 24).take 24).all (fun c => isCode c || c.before args0 about1) = true := by decide +kernel
set_option maxRecDepth 65536 in
theorem w_t6 : ((((((words1.drop 24).drop 24).drop 24).drop 24).drop 24).take 24).all (fun c => isCode c || c.before args0 about1) = true := by decide +kernel
set_option maxRecDepth 65536 in
theorem w_t7 : (((((((words1.drop 24).drop 24).drop 24).drop 24).drop 24).drop 24).take 24).all (fun c => isCode c || c.before args0 about1) = true := by decide +kernel
set_option maxRecDepth 65536 in
theorem w_t8 : ((((((((words1.drop 24).drop 24).drop 24).drop 24).drop 24).drop 24).drop 24).take 24).all (fun c => isCode c || c.before args0 about1) = true := by decide +kernel
set_option maxRecDepth 65536 in
theorem w_t9 : (((((((((words1.drop 24).drop 24).drop 24).drop 24).drop 24).drop 24).drop 24).drop 24).take 24).all (fun c => isCode c || c.before args0 about1) = true := by decide +kernel
set_option maxRecDepth 65536 in
theorem w_t10 : (((((((((words1.drop 24).drop 24).drop 24).drop 24).drop 24).drop 24).drop 24).drop 24).drop 24).all (fun c => isCode c || c.before args0 about1) = true := by decide +kernel
theorem w_tables : (allAtoms (Jvm.Cond.code x code maxLocals ret :: tables_1)).before args0 about1 = true := by
  rw [allAtoms_all]
  show words1.all (fun c => c.before args0 about1) = true
  refine all_split ?_ w_codes
  rw [← List.take_append_drop 24 words1, List.all_append, w_t1, ← List.take_append_drop 24 (words1.drop 24), List.all_append, w_t2, ← List.take_append_drop 24 ((words1.drop 24).drop 24), List.all_append, w_t3, ← List.take_append_drop 24 (((words1.drop 24).drop 24).drop 24), List.all_append, w_t4, ← List.take_append_drop 24 ((((words1.drop 24).drop 24).drop 24).drop 24), List.all_append, w_t5, ← List.take_append_drop 24 (((((words1.drop 24).drop 24).drop 24).drop 24).drop 24), List.all_append, w_t6, ← List.take_append_drop 24 ((((((words1.drop 24).drop 24).drop 24).drop 24).drop 24).drop 24), List.all_append, w_t7, ← List.take_append_drop 24 (((((((words1.drop 24).drop 24).drop 24).drop 24).drop 24).drop 24).drop 24), List.all_append, w_t8, ← List.take_append_drop 24 ((((((((words1.drop 24).drop 24).drop 24).drop 24).drop 24).drop 24).drop 24).drop 24), List.all_append, w_t9, w_t10]
  rfl
set_option maxRecDepth 65536 in
theorem w_rest : rest_1_c.before args0 about1 = true := by decide +kernel
set_option maxRecDepth 65536 in
theorem w_case : (Jvm.Cond.and given_1 narrow_1).before args0 about1 = true := by decide +kernel
theorem w_applies : (headSpec (Jvm.Cond.code x code maxLocals ret :: tables_1) room_1).applies x e0.platform about1 = true :=
  (Spec.applies_iff w_frames).mpr ⟨w_running, w_runnable, w_alone, w_named, w_hears, w_ripe, w_room, w_tables⟩
theorem atStart : AtStart classFile x code maxLocals ret World_1 tables_1 room_1 Calls_1 rest_1 Pre_1 launch0 p0 e0 about1 theMethod args0 below0 :=
  ⟨lists_1, trivial, launch0.admits_env _ _ _, launch0.least_env, fairChoices_fair.cas, fairChoices_fair.clock, w_frames, w_args, w_heap, w_applies, trivial, w_rest, w_case⟩
end start1
theorem witness_1 : WitnessClaimed_1 := ⟨start1.p0, start1.e0, start1.about1, start1.theMethod, start1.args0, start1.below0, start1.atStart⟩
end Jvm.Pilot.@@N@@
