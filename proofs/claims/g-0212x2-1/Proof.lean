import JvmDerived
import JvmDerived.Pilot.@@N@@Statement
import JvmDerived.Pilot.@@N@@Code
set_option linter.unusedVariables false
set_option linter.unusedSimpArgs false
set_option maxRecDepth 20000
namespace Jvm.JX
open Sem ClassFile Op Lib
abbrev Cel : Type := FieldType × Nat × Bool × (Nat → Value)
abbrev AH : Type := Nat × (Nat → Cel)
abbrev MInfo : Type := Nat × Nat × Nat × Option FieldType × Jvm.Room
abbrev Prog : Type := (Nat → Nat → Option (Instr × Nat × Int)) × (Nat → MInfo) × (Nat → FieldType) × Nat
abbrev Fm : Type := Nat × List Slot × List Value × Nat × Nat × AH
def na (P : Prog) (m : Nat) : Nat := (P.2.1 m).1
def ml (P : Prog) (m : Nat) : Nat := (P.2.1 m).2.1
def kd (P : Prog) (m : Nat) : Nat := (P.2.1 m).2.2.1
def rt (P : Prog) (m : Nat) : Option FieldType := (P.2.1 m).2.2.2.1
def rm (P : Prog) (m : Nat) : Jvm.Room := (P.2.1 m).2.2.2.2
def isO (H : AH) (a : Nat) : Bool := match (H.2 a).1 with | .object _ => true | _ => false
def isOw (H : AH) (a : Nat) : Bool := isO H a && (H.2 a).2.2.1
def inA (H : AH) (a : Nat) (t : FieldType) (i : Int32) : Bool := decide ((H.2 a).1 = .array t) && !decide (i < 0) && decide (i.toNatClampNeg < (H.2 a).2.1)
def inAw (H : AH) (a : Nat) (t : FieldType) (i : Int32) : Bool := inA H a t i && (H.2 a).2.2.1
def isA (H : AH) (a : Nat) : Bool := match (H.2 a).1 with | .array _ => true | _ => false
def elt (H : AH) (a : Nat) (i : Int32) : Value := (H.2 a).2.2.2 i.toNatClampNeg
def fld (H : AH) (a k : Nat) : Value := (H.2 a).2.2.2 k
def alen (H : AH) (a : Nat) : Nat := (H.2 a).2.1
def wr (H : AH) (a j : Nat) (v : Value) : AH := (H.1, fun b => if b = a then ((H.2 a).1, (H.2 a).2.1, (H.2 a).2.2.1, fun i => if i = j then v else (H.2 a).2.2.2 i) else H.2 b)
def okv : FieldType → Value → Bool
  | .int, .int _ => true
  | .boolean, .int z => z == 0 || z == 1
  | .byte, .int z => z.toInt8.toInt32 == z
  | .long, .long _ => true
  | .array _, .ref _ => true
  | _, _ => false
def mkO (P : Prog) (H : AH) : AH := (H.1 + 1, fun b => if b = H.1 then (.object "", P.2.2.2, true, fun k => defaultValue (P.2.2.1 k)) else H.2 b)
def mkA (t : FieldType) (n : Nat) (H : AH) : AH := (H.1 + 1, fun b => if b = H.1 then (.array t, n, true, fun _ => defaultValue t) else H.2 b)
def cat1 : Slot → Bool | .unset => true | .val v => v.category == 1 | .second => false
def cs (S : List Value) : Nat := (S.map fun v => v.category).sum
def stl (L : List Slot) (i : Nat) (v : Value) : Option (List Slot) :=
  match L[i]? with
  | some .unset => some (L.set i (.val v))
  | some (.val w) => if w.category = 1 then some (L.set i (.val v)) else if i + 1 < L.length then some ((L.set (i + 1) .unset).set i (.val v)) else none
  | some .second => if 1 ≤ i then some ((L.set (i - 1) .unset).set i (.val v)) else none
  | none => none
def stL (L : List Slot) (i : Nat) (v : Value) : Option (List Slot) :=
  match L[i]?, L[i + 1]? with
  | some (.val w), some o2 => if w.category = 2 then some ((L.set i (.val v)).set (i + 1) .second) else if cat1 o2 = true then some ((L.set i (.val v)).set (i + 1) .second) else none
  | some .unset, some o2 => if cat1 o2 = true then some ((L.set i (.val v)).set (i + 1) .second) else none
  | _, _ => none
def ent (P : Prog) (m : Nat) (a : List Value) : List Slot := Sym.laidSlots a ++ List.replicate (ml P m - (Sym.laidSlots a).length) .unset
def ilen : Instr → Nat
  | .bipush _ | .iload _ | .istore _ | .aload _ | .astore _ | .lload _ | .lstore _ | .newarray _ | .ldc _ => 2
  | .sipush _ | .getfield _ | .putfield _ | .new _ | .invokevirtual _ | .invokestatic _ | .invokespecial _ | .ldc2_w _ | .goto _ | .ifCond _ _ | .if_icmp _ _ | .iinc _ _ => 3
  | _ => 1
def ldI (L : List Slot) (i : Nat) : Option Value := match L[i]? with | some (.val (.int x)) => some (.int x) | _ => none
def ldJ (L : List Slot) (i : Nat) : Option Value := match L[i]? with | some (.val (.long x)) => some (.long x) | _ => none
def ldR (L : List Slot) (i : Nat) : Option Value := match L[i]? with | some (.val (.ref x)) => some (.ref x) | _ => none
def jmp (pc : Nat) (o : Int) : Option Nat := if 0 ≤ (pc : Int) + o then some ((pc : Int) + o).toNat else none
def ret (P : Prog) (m : Nat) (ins : Instr) (S : List Value) : Option (Option Value) :=
  match ins with
  | .return_ => if rt P m = none ∧ S = [] then some none else none
  | .ireturn => match S, rt P m with
    | .int z :: _, some .int => some (some (.int z))
    | .int z :: _, some .boolean => if z = 0 ∨ z = 1 then some (some (.int z)) else none
    | _, _ => none
  | .lreturn => match S, rt P m with
    | .long z :: _, some .long => some (some (.long z))
    | _, _ => none
  | _ => none
def rcv (H : AH) : List Value → Bool | .ref a :: _ => isO H a | _ => false
def may (P : Prog) (m m' : Nat) (a r : List Value) (k n : Nat) (H : AH) : Bool :=
  decide ((Sym.laidSlots a).length ≤ ml P m') && decide (a.length = na P m') && decide ((rm P m').frames + 1 ≤ (rm P m).frames) && decide (cs r + (ml P m' + 11) + (rm P m').locals ≤ (rm P m).locals)
    && (decide ((rm P m').cells = 0 ∧ (rm P m').slots = 0) || decide (k + (rm P m').cells ≤ (rm P m).cells ∧ n + (rm P m').slots ≤ (rm P m).slots))
    && (decide (kd P m' = 0) || rcv H a)
def kindOk : Instr → Nat → Bool
  | .invokevirtual _, k => k == 1 || k == 2
  | .invokestatic _, k => k == 0
  | .invokespecial _, k => k == 3
  | _, _ => false
def cal1 (P : Prog) (m : Nat) (ins : Instr) (aux : Int) (S : List Value) (k n : Nat) (H : AH) : Option (Nat × List Value × List Value) :=
  if 0 ≤ aux ∧ kindOk ins (kd P aux.toNat) = true ∧ may P m aux.toNat (S.take (na P aux.toNat)).reverse (S.drop (na P aux.toNat)) k n H = true
  then some (aux.toNat, (S.take (na P aux.toNat)).reverse, S.drop (na P aux.toNat)) else none
def cal (P : Prog) (m : Nat) (ins : Instr) (aux : Int) (S : List Value) (k n : Nat) (H : AH) : Option (Nat × List Value × List Value) :=
  match ins with
  | .invokevirtual _ | .invokestatic _ | .invokespecial _ => cal1 P m ins aux S k n H
  | _ => none
def opI : Instr → Option (Int32 → Int32 → Int32)
  | .iadd => some fun x y => x + y
  | .isub => some fun x y => x - y
  | .imul => some fun x y => x * y
  | .iand => some fun x y => x &&& y
  | .ior => some fun x y => x ||| y
  | .ixor => some fun x y => x ^^^ y
  | .ishl => some fun x y => x <<< (y &&& 31)
  | .ishr => some fun x y => x >>> (y &&& 31)
  | .iushr => some Jvm.Free.XT.ushr
  | _ => none
def opJ : Instr → Option (Int64 → Int64 → Int64)
  | .ladd => some fun x y => x + y
  | .lsub => some fun x y => x - y
  | .lmul => some fun x y => x * y
  | .land => some fun x y => x &&& y
  | .lor => some fun x y => x ||| y
  | .lxor => some fun x y => x ^^^ y
  | _ => none
def opS : Instr → Option (Int64 → Int32 → Int64)
  | .lshl => some fun x y => x <<< (y.toInt64 &&& 63)
  | .lshr => some fun x y => x >>> (y.toInt64 &&& 63)
  | .lushr => some Jvm.Free.XT.ushrL
  | _ => none
def stp (P : Prog) (m : Nat) (ins : Instr) (len : Nat) (aux : Int) (pc : Nat) (L : List Slot) (S : List Value) (k n : Nat) (H : AH) : Option Fm :=
  match ins with
  | .iconst i => some (pc + len, L, .int (Int32.ofInt i) :: S, k, n, H)
  | .bipush i => some (pc + len, L, .int (Int8.ofInt i).toInt32 :: S, k, n, H)
  | .sipush i => some (pc + len, L, .int (Int16.ofInt i).toInt32 :: S, k, n, H)
  | .lconst i => some (pc + len, L, .long (Int64.ofNat i) :: S, k, n, H)
  | .ldc _ => some (pc + len, L, .int (Int32.ofInt aux) :: S, k, n, H)
  | .ldc2_w _ => some (pc + len, L, .long (Int64.ofInt aux) :: S, k, n, H)
  | .iload i => (ldI L i).map fun v => (pc + len, L, v :: S, k, n, H)
  | .iload_n i => (ldI L i.val).map fun v => (pc + len, L, v :: S, k, n, H)
  | .lload i => (ldJ L i).map fun v => (pc + len, L, v :: S, k, n, H)
  | .lload_n i => (ldJ L i.val).map fun v => (pc + len, L, v :: S, k, n, H)
  | .aload i => (ldR L i).map fun v => (pc + len, L, v :: S, k, n, H)
  | .aload_n i => (ldR L i.val).map fun v => (pc + len, L, v :: S, k, n, H)
  | .istore i => match S with | .int x :: S => (stl L i (.int x)).map fun L => (pc + len, L, S, k, n, H) | _ => none
  | .istore_n i => match S with | .int x :: S => (stl L i.val (.int x)).map fun L => (pc + len, L, S, k, n, H) | _ => none
  | .astore i => match S with | .ref x :: S => (stl L i (.ref x)).map fun L => (pc + len, L, S, k, n, H) | _ => none
  | .astore_n i => match S with | .ref x :: S => (stl L i.val (.ref x)).map fun L => (pc + len, L, S, k, n, H) | _ => none
  | .lstore i => match S with | .long x :: S => (stL L i (.long x)).map fun L => (pc + len, L, S, k, n, H) | _ => none
  | .lstore_n i => match S with | .long x :: S => (stL L i.val (.long x)).map fun L => (pc + len, L, S, k, n, H) | _ => none
  | .iinc i c => match L[i]? with | some (.val (.int x)) => some (pc + len, L.set i (.val (.int (x + Int32.ofInt c))), S, k, n, H) | _ => none
  | .iadd | .isub | .imul | .iand | .ior | .ixor | .ishl | .ishr | .iushr => match S with | .int y :: .int x :: S => (opI ins).map fun f => (pc + len, L, .int (f x y) :: S, k, n, H) | _ => none
  | .ladd | .lsub | .lmul | .land | .lor | .lxor => match S with | .long y :: .long x :: S => (opJ ins).map fun f => (pc + len, L, .long (f x y) :: S, k, n, H) | _ => none
  | .lshl | .lshr | .lushr => match S with | .int y :: .long x :: S => (opS ins).map fun f => (pc + len, L, .long (f x y) :: S, k, n, H) | _ => none
  | .idiv => match S with | .int y :: .int x :: S => if y = 0 then none else some (pc + len, L, .int (x / y) :: S, k, n, H) | _ => none
  | .irem => match S with | .int y :: .int x :: S => if y = 0 then none else some (pc + len, L, .int (x % y) :: S, k, n, H) | _ => none
  | .ldiv => match S with | .long y :: .long x :: S => if y = 0 then none else some (pc + len, L, .long (x / y) :: S, k, n, H) | _ => none
  | .lrem => match S with | .long y :: .long x :: S => if y = 0 then none else some (pc + len, L, .long (x % y) :: S, k, n, H) | _ => none
  | .ineg => match S with | .int x :: S => some (pc + len, L, .int (-x) :: S, k, n, H) | _ => none
  | .lneg => match S with | .long x :: S => some (pc + len, L, .long (-x) :: S, k, n, H) | _ => none
  | .i2l => match S with | .int x :: S => some (pc + len, L, .long x.toInt64 :: S, k, n, H) | _ => none
  | .l2i => match S with | .long x :: S => some (pc + len, L, .int x.toInt32 :: S, k, n, H) | _ => none
  | .i2b => match S with | .int x :: S => some (pc + len, L, .int x.toInt8.toInt32 :: S, k, n, H) | _ => none
  | .lcmp => match S with | .long y :: .long x :: S => some (pc + len, L, .int (Jvm.Free.XT.cmpL x y) :: S, k, n, H) | _ => none
  | .dup => match S with | v :: S => if v.category = 1 then some (pc + len, L, v :: v :: S, k, n, H) else none | _ => none
  | .dup2 => match S with
    | .long x :: S => some (pc + len, L, .long x :: .long x :: S, k, n, H)
    | v :: w :: S => if v.category = 1 ∧ w.category = 1 then some (pc + len, L, v :: w :: v :: w :: S, k, n, H) else none
    | _ => none
  | .pop => match S with | v :: S => if v.category = 1 then some (pc + len, L, S, k, n, H) else none | _ => none
  | .goto o => (jmp pc o).map fun q => (q, L, S, k, n, H)
  | .ifCond c o => match S with | .int x :: S => if ifCond.holds c x = true then (jmp pc o).map fun q => (q, L, S, k, n, H) else some (pc + len, L, S, k, n, H) | _ => none
  | .if_icmp c o => match S with | .int y :: .int x :: S => if if_icmp.holds c x y = true then (jmp pc o).map fun q => (q, L, S, k, n, H) else some (pc + len, L, S, k, n, H) | _ => none
  | .tableswitch d lo hi os => match S with
    | .int x :: S => if x.toInt < lo ∨ x.toInt > hi then (jmp pc d).map fun q => (q, L, S, k, n, H) else (os[(x.toInt - lo).toNat]?).bind fun o => (jmp pc o).map fun q => (q, L, S, k, n, H)
    | _ => none
  | .getfield _ => match S with | .ref a :: S => if isO H a = true then some (pc + len, L, fld H a aux.toNat :: S, k, n, H) else none | _ => none
  | .putfield _ => match S with | v :: .ref a :: S => if isOw H a = true ∧ okv (P.2.2.1 aux.toNat) v = true then some (pc + len, L, S, k, n, wr H a aux.toNat v) else none | _ => none
  | .iaload => match S with | .int i :: .ref a :: S => if inA H a .int i = true then some (pc + len, L, elt H a i :: S, k, n, H) else none | _ => none
  | .laload => match S with | .int i :: .ref a :: S => if inA H a .long i = true then some (pc + len, L, elt H a i :: S, k, n, H) else none | _ => none
  | .baload => match S with | .int i :: .ref a :: S => if inA H a .byte i = true ∨ inA H a .boolean i = true then some (pc + len, L, elt H a i :: S, k, n, H) else none | _ => none
  | .iastore => match S with | .int x :: .int i :: .ref a :: S => if inAw H a .int i = true then some (pc + len, L, S, k, n, wr H a i.toNatClampNeg (.int x)) else none | _ => none
  | .lastore => match S with | .long x :: .int i :: .ref a :: S => if inAw H a .long i = true then some (pc + len, L, S, k, n, wr H a i.toNatClampNeg (.long x)) else none | _ => none
  | .bastore => match S with
    | .int x :: .int i :: .ref a :: S => if (inAw H a .byte i = true ∧ okv .byte (.int x) = true) ∨ (inAw H a .boolean i = true ∧ okv .boolean (.int x) = true) then some (pc + len, L, S, k, n, wr H a i.toNatClampNeg (.int x)) else none
    | _ => none
  | .arraylength => match S with | .ref a :: S => if isA H a = true then some (pc + len, L, .int (alen H a).toInt32 :: S, k, n, H) else none | _ => none
  | .newarray t => match S with | .int c :: S => if ¬ c < 0 ∧ c.toNatClampNeg * 8 ≤ 536870912 ∧ k + 1 ≤ (rm P m).cells ∧ n + c.toNatClampNeg ≤ (rm P m).slots then some (pc + len, L, .ref H.1 :: S, k + 1, n + c.toNatClampNeg, mkA (newarray.typeOf t) c.toNatClampNeg H) else none | _ => none
  | .new _ => if 0 ≤ aux ∧ k + 1 ≤ (rm P m).cells ∧ n + aux.toNat ≤ (rm P m).slots then some (pc + len, L, .ref H.1 :: S, k + 1, n + aux.toNat, mkO P H) else none
  | .invokespecial _ => match S with | .ref a :: S => if aux = -1 ∧ 1 ≤ (rm P m).frames ∧ cs S + 12 ≤ (rm P m).locals then some (pc + len, L, S, k, n, H) else none | _ => none
  | _ => none
def run (P : Prog) : Nat → Nat → Nat → List Slot → List Value → Nat → Nat → AH → Option (Option Value × AH)
  | 0, _, _, _, _, _, _, _ => none
  | f + 1, m, pc, L, S, k, n, H =>
    match P.1 m pc with
    | none => none
    | some d =>
      match ret P m d.1 S with
      | some v => some (v, H)
      | none => match cal P m d.1 d.2.2 S k n H with
        | some c => match run P f c.1 0 (ent P c.1 c.2.1) [] 0 0 H with
          | none => none
          | some r => run P f m (pc + d.2.1) L (r.1.toList ++ c.2.2) (k + (rm P c.1).cells) (n + (rm P c.1).slots) r.2
        | none => match stp P m d.1 d.2.1 d.2.2 pc L S k n H with
          | none => none
          | some q => run P f m q.1 q.2.1 q.2.2.1 q.2.2.2.1 q.2.2.2.2.1 q.2.2.2.2.2
end Jvm.JX

namespace Jvm.JX
open Sem ClassFile Op Lib
section
variable {P : Prog}
theorem run_succ (f m pc : Nat) (L : List Slot) (S : List Value) (k n : Nat) (H : AH) : run P (f + 1) m pc L S k n H =
    match P.1 m pc with
    | none => none
    | some d =>
      match ret P m d.1 S with
      | some v => some (v, H)
      | none => match cal P m d.1 d.2.2 S k n H with
        | some c => match run P f c.1 0 (ent P c.1 c.2.1) [] 0 0 H with
          | none => none
          | some r => run P f m (pc + d.2.1) L (r.1.toList ++ c.2.2) (k + (rm P c.1).cells) (n + (rm P c.1).slots) r.2
        | none => match stp P m d.1 d.2.1 d.2.2 pc L S k n H with
          | none => none
          | some q => run P f m q.1 q.2.1 q.2.2.1 q.2.2.2.1 q.2.2.2.2.1 q.2.2.2.2.2 := rfl
theorem run_mono : ∀ (f m pc : Nat) (L : List Slot) (S : List Value) (k n : Nat) (H : AH) (r : Option Value × AH), run P f m pc L S k n H = some r → run P (f + 1) m pc L S k n H = some r := by
  intro f
  induction f with
  | zero => intro m pc L S k n H r h; cases h
  | succ f ih =>
    intro m pc L S k n H r h
    rw [run_succ] at h ⊢
    cases hd : P.1 m pc with
    | none => rw [hd] at h; cases h
    | some d =>
      rw [hd] at h
      simp only at h ⊢
      cases hr : ret P m d.1 S with
      | some v => rw [hr] at h; exact h
      | none =>
        rw [hr] at h
        simp only at h ⊢
        cases hc : cal P m d.1 d.2.2 S k n H with
        | some c =>
          rw [hc] at h
          simp only at h ⊢
          cases hq : run P f c.1 0 (ent P c.1 c.2.1) [] 0 0 H with
          | none => rw [hq] at h; cases h
          | some q =>
            rw [hq] at h
            rw [ih _ _ _ _ _ _ _ _ hq]
            exact ih _ _ _ _ _ _ _ _ h
        | none =>
          rw [hc] at h
          simp only at h ⊢
          cases hs : stp P m d.1 d.2.1 d.2.2 pc L S k n H with
          | none => rw [hs] at h; cases h
          | some q => rw [hs] at h; exact ih _ _ _ _ _ _ _ _ h
theorem run_le {f g : Nat} (hfg : f ≤ g) {m pc : Nat} {L : List Slot} {S : List Value} {k n : Nat} {H : AH} {r : Option Value × AH} (h : run P f m pc L S k n H = some r) : run P g m pc L S k n H = some r := by
  induction hfg with
  | refl => exact h
  | step _ ih => exact run_mono _ _ _ _ _ _ _ _ _ ih
end
def W (P : Prog) (m pc : Nat) (L : List Slot) (S : List Value) (k n : Nat) (H : AH) (Q : Option Value → AH → Prop) : Prop := ∃ f v H', run P f m pc L S k n H = some (v, H') ∧ Q v H'
def Cl (P : Prog) (m : Nat) (a : List Value) (H : AH) (Q : Option Value → AH → Prop) : Prop := W P m 0 (ent P m a) [] 0 0 H Q
section Rules
variable {P : Prog} {m pc : Nat} {L : List Slot} {S : List Value} {k n : Nat} {H : AH} {Q : Option Value → AH → Prop} {ins : Instr} {len : Nat} {aux : Int}
theorem W_r {v : Option Value} (hd : P.1 m pc = some (ins, len, aux)) (hr : ret P m ins S = some v) : W P m pc L S k n H Q ↔ Q v H := by
  constructor
  · rintro ⟨f, v', H', h1, h2⟩
    cases f with
    | zero => cases h1
    | succ f => rw [run_succ, hd] at h1; simp only [hr] at h1; cases h1; exact h2
  · intro h
    refine ⟨1, v, H, ?_, h⟩
    rw [run_succ, hd]; simp only [hr]
theorem W_c {m' : Nat} {a r : List Value} (hd : P.1 m pc = some (ins, len, aux)) (hr : ret P m ins S = none) (hc : cal P m ins aux S k n H = some (m', a, r)) :
    W P m pc L S k n H Q ↔ Cl P m' a H (fun v H' => W P m (pc + len) L (v.toList ++ r) (k + (rm P m').cells) (n + (rm P m').slots) H' Q) := by
  constructor
  · rintro ⟨f, v', H', h1, h2⟩
    cases f with
    | zero => cases h1
    | succ f =>
      rw [run_succ, hd] at h1; simp only [hr, hc] at h1
      cases hq : run P f m' 0 (ent P m' a) [] 0 0 H with
      | none => rw [hq] at h1; cases h1
      | some q => rw [hq] at h1; exact ⟨f, q.1, q.2, hq, f, v', H', h1, h2⟩
  · rintro ⟨f, v, H', h1, g, v', H'', h2, h3⟩
    refine ⟨max f g + 1, v', H'', ?_, h3⟩
    rw [run_succ, hd]; simp only [hr, hc]
    rw [run_le (Nat.le_max_left f g) h1]
    exact run_le (Nat.le_max_right f g) h2
theorem W_q (hd : P.1 m pc = some (ins, len, aux)) (hr : ret P m ins S = none) (hc : cal P m ins aux S k n H = none) :
    W P m pc L S k n H Q ↔ ∃ q, stp P m ins len aux pc L S k n H = some q ∧ W P m q.1 q.2.1 q.2.2.1 q.2.2.2.1 q.2.2.2.2.1 q.2.2.2.2.2 Q := by
  constructor
  · rintro ⟨f, v', H', h1, h2⟩
    cases f with
    | zero => cases h1
    | succ f =>
      rw [run_succ, hd] at h1; simp only [hr, hc] at h1
      cases hq : stp P m ins len aux pc L S k n H with
      | none => rw [hq] at h1; cases h1
      | some q => rw [hq] at h1; exact ⟨q, rfl, f, v', H', h1, h2⟩
  · rintro ⟨q, hq, f, v', H', h1, h2⟩
    refine ⟨f + 1, v', H', ?_, h2⟩
    rw [run_succ, hd]; simp only [hr, hc, hq]; exact h1
theorem W_s {pc' : Nat} {L' : List Slot} {S' : List Value} {k' n' : Nat} {H' : AH} (hd : P.1 m pc = some (ins, len, aux)) (hr : ret P m ins S = none) (hc : cal P m ins aux S k n H = none)
    (hs : stp P m ins len aux pc L S k n H = some (pc', L', S', k', n', H')) : W P m pc L S k n H Q ↔ W P m pc' L' S' k' n' H' Q := by
  rw [W_q hd hr hc, hs]
  exact ⟨fun ⟨q, e, h⟩ => by cases e; exact h, fun h => ⟨_, rfl, h⟩⟩
theorem W_g {G : Prop} [Decidable G] {pc' : Nat} {L' : List Slot} {S' : List Value} {k' n' : Nat} {H' : AH} (hd : P.1 m pc = some (ins, len, aux)) (hr : ret P m ins S = none) (hc : cal P m ins aux S k n H = none)
    (hs : stp P m ins len aux pc L S k n H = if G then some (pc', L', S', k', n', H') else none) : W P m pc L S k n H Q ↔ (G ∧ W P m pc' L' S' k' n' H' Q) := by
  rw [W_q hd hr hc, hs]
  by_cases g : G
  · rw [if_pos g]; exact ⟨fun ⟨q, e, h⟩ => by cases e; exact ⟨g, h⟩, fun h => ⟨_, rfl, h.2⟩⟩
  · rw [if_neg g]; exact ⟨fun ⟨q, e, h⟩ => (by cases e), fun h => absurd h.1 g⟩
theorem W_n {G : Prop} [Decidable G] {pc' : Nat} {L' : List Slot} {S' : List Value} {k' n' : Nat} {H' : AH} (hd : P.1 m pc = some (ins, len, aux)) (hr : ret P m ins S = none) (hc : cal P m ins aux S k n H = none)
    (hs : stp P m ins len aux pc L S k n H = if G then none else some (pc', L', S', k', n', H')) : W P m pc L S k n H Q ↔ (¬ G ∧ W P m pc' L' S' k' n' H' Q) := by
  rw [W_q hd hr hc, hs]
  by_cases g : G
  · rw [if_pos g]; exact ⟨fun ⟨q, e, h⟩ => (by cases e), fun h => absurd g h.1⟩
  · rw [if_neg g]; exact ⟨fun ⟨q, e, h⟩ => by cases e; exact ⟨g, h⟩, fun h => ⟨_, rfl, h.2⟩⟩
theorem W_f {G : Prop} [Decidable G] {q1 q2 : Fm} (hd : P.1 m pc = some (ins, len, aux)) (hr : ret P m ins S = none) (hc : cal P m ins aux S k n H = none)
    (hs : stp P m ins len aux pc L S k n H = if G then some q1 else some q2) : W P m pc L S k n H Q ↔ (if G then W P m q1.1 q1.2.1 q1.2.2.1 q1.2.2.2.1 q1.2.2.2.2.1 q1.2.2.2.2.2 Q else W P m q2.1 q2.2.1 q2.2.2.1 q2.2.2.2.1 q2.2.2.2.2.1 q2.2.2.2.2.2 Q) := by
  rw [W_q hd hr hc, hs]
  by_cases g : G
  · rw [if_pos g, if_pos g]; exact ⟨fun ⟨q, e, h⟩ => by cases e; exact h, fun h => ⟨_, rfl, h⟩⟩
  · rw [if_neg g, if_neg g]; exact ⟨fun ⟨q, e, h⟩ => by cases e; exact h, fun h => ⟨_, rfl, h⟩⟩
section Cmp
variable {x y : Int32} {o : Int} {q : Nat}
theorem W_icmp_eq (hd : P.1 m pc = some (.if_icmp .eq o, len, aux)) (hj : jmp pc o = some q) : W P m pc L (.int y :: .int x :: S) k n H Q ↔ (if x = y then W P m q L S k n H Q else W P m (pc + len) L S k n H Q) :=
  W_f (G := x = y) (q1 := (q, L, S, k, n, H)) (q2 := (pc + len, L, S, k, n, H)) hd rfl rfl (by simp only [stp, hj, if_icmp.holds]; by_cases h : x = y <;> simp [h])
theorem W_icmp_ne (hd : P.1 m pc = some (.if_icmp .ne o, len, aux)) (hj : jmp pc o = some q) : W P m pc L (.int y :: .int x :: S) k n H Q ↔ (if x = y then W P m (pc + len) L S k n H Q else W P m q L S k n H Q) :=
  W_f (G := x = y) (q1 := (pc + len, L, S, k, n, H)) (q2 := (q, L, S, k, n, H)) hd rfl rfl (by simp only [stp, hj, if_icmp.holds]; by_cases h : x = y <;> simp [h])
theorem W_icmp_lt (hd : P.1 m pc = some (.if_icmp .lt o, len, aux)) (hj : jmp pc o = some q) : W P m pc L (.int y :: .int x :: S) k n H Q ↔ (if x < y then W P m q L S k n H Q else W P m (pc + len) L S k n H Q) :=
  W_f (G := x < y) (q1 := (q, L, S, k, n, H)) (q2 := (pc + len, L, S, k, n, H)) hd rfl rfl (by
    by_cases h : x < y
    · simp [stp, hj, Jvm.Free.XT.ii_lt_t h, h]
    · simp [stp, hj, Jvm.Free.XT.ii_lt_f h, h])
theorem W_icmp_ge (hd : P.1 m pc = some (.if_icmp .ge o, len, aux)) (hj : jmp pc o = some q) : W P m pc L (.int y :: .int x :: S) k n H Q ↔ (if x < y then W P m (pc + len) L S k n H Q else W P m q L S k n H Q) :=
  W_f (G := x < y) (q1 := (pc + len, L, S, k, n, H)) (q2 := (q, L, S, k, n, H)) hd rfl rfl (by
    by_cases h : x < y
    · simp [stp, hj, Jvm.Free.XT.ii_ge_f h, h]
    · simp [stp, hj, Jvm.Free.XT.ii_ge_t h, h])
theorem W_icmp_gt (hd : P.1 m pc = some (.if_icmp .gt o, len, aux)) (hj : jmp pc o = some q) : W P m pc L (.int y :: .int x :: S) k n H Q ↔ (if y < x then W P m q L S k n H Q else W P m (pc + len) L S k n H Q) :=
  W_f (G := y < x) (q1 := (q, L, S, k, n, H)) (q2 := (pc + len, L, S, k, n, H)) hd rfl rfl (by
    by_cases h : y < x
    · simp [stp, hj, Jvm.Free.XT.ii_gt_t h, h]
    · simp [stp, hj, Jvm.Free.XT.ii_gt_f h, h])
theorem W_icmp_le (hd : P.1 m pc = some (.if_icmp .le o, len, aux)) (hj : jmp pc o = some q) : W P m pc L (.int y :: .int x :: S) k n H Q ↔ (if y < x then W P m (pc + len) L S k n H Q else W P m q L S k n H Q) :=
  W_f (G := y < x) (q1 := (pc + len, L, S, k, n, H)) (q2 := (q, L, S, k, n, H)) hd rfl rfl (by
    by_cases h : y < x
    · simp [stp, hj, Jvm.Free.XT.ii_le_f h, h]
    · simp [stp, hj, Jvm.Free.XT.ii_le_t h, h])
theorem W_if_eq (hd : P.1 m pc = some (.ifCond .eq o, len, aux)) (hj : jmp pc o = some q) : W P m pc L (.int x :: S) k n H Q ↔ (if x = 0 then W P m q L S k n H Q else W P m (pc + len) L S k n H Q) :=
  W_f (G := x = 0) (q1 := (q, L, S, k, n, H)) (q2 := (pc + len, L, S, k, n, H)) hd rfl rfl (by
    by_cases h : x = 0
    · have e := Jvm.Free.XT.i0_eq_t h; simp only [stp, hj, e, if_pos h, if_true, Option.map_some]
    · simp [stp, hj, Jvm.Free.XT.i0_eq_f h, h])
theorem W_if_ne (hd : P.1 m pc = some (.ifCond .ne o, len, aux)) (hj : jmp pc o = some q) : W P m pc L (.int x :: S) k n H Q ↔ (if x = 0 then W P m (pc + len) L S k n H Q else W P m q L S k n H Q) :=
  W_f (G := x = 0) (q1 := (pc + len, L, S, k, n, H)) (q2 := (q, L, S, k, n, H)) hd rfl rfl (by
    by_cases h : x = 0
    · have e := Jvm.Free.XT.i0_ne_f h; simp only [stp, hj, e, if_pos h, Bool.false_eq_true, if_false]
    · simp [stp, hj, Jvm.Free.XT.i0_ne_t h, h])
theorem W_if_lt (hd : P.1 m pc = some (.ifCond .lt o, len, aux)) (hj : jmp pc o = some q) : W P m pc L (.int x :: S) k n H Q ↔ (if x < 0 then W P m q L S k n H Q else W P m (pc + len) L S k n H Q) :=
  W_f (G := x < 0) (q1 := (q, L, S, k, n, H)) (q2 := (pc + len, L, S, k, n, H)) hd rfl rfl (by
    by_cases h : x < 0
    · simp [stp, hj, Jvm.Free.XT.i0_lt_t h, h]
    · simp [stp, hj, Jvm.Free.XT.i0_lt_f h, h])
theorem W_if_le (hd : P.1 m pc = some (.ifCond .le o, len, aux)) (hj : jmp pc o = some q) : W P m pc L (.int x :: S) k n H Q ↔ (if 0 < x then W P m (pc + len) L S k n H Q else W P m q L S k n H Q) :=
  W_f (G := 0 < x) (q1 := (pc + len, L, S, k, n, H)) (q2 := (q, L, S, k, n, H)) hd rfl rfl (by
    by_cases h : 0 < x
    · simp [stp, hj, Jvm.Free.XT.i0_le_f h, h]
    · simp [stp, hj, Jvm.Free.XT.i0_le_t h, h])
theorem W_goto (hd : P.1 m pc = some (.goto o, len, aux)) (hj : jmp pc o = some q) : W P m pc L S k n H Q ↔ W P m q L S k n H Q := W_s hd rfl rfl (by simp [stp, hj])
end Cmp
section Sto
variable {i : Nat} {o o2 : Slot} {x y : Int32} {v : Value} {l : Int64} {a : Nat}
theorem stl_plain (h : L[i]? = some o) (ho : cat1 o = true) : stl L i v = some (L.set i (.val v)) := by
  unfold stl
  rw [h]
  cases o with
  | unset => rfl
  | second => cases ho
  | val w => simp only [cat1, beq_iff_eq] at ho; simp [ho]
theorem stL_plain (h : L[i]? = some o) (h2 : L[i + 1]? = some o2) (ho : cat1 o = true) (ho2 : cat1 o2 = true) : stL L i v = some ((L.set i (.val v)).set (i + 1) .second) := by
  unfold stL
  rw [h, h2]
  cases o with
  | unset => simp [ho2]
  | second => cases ho
  | val w => simp only [cat1, beq_iff_eq] at ho; simp [ho, ho2]
theorem stL_again (h : L[i]? = some (.val (.long l))) (h2 : L[i + 1]? = some o2) : stL L i v = some ((L.set i (.val v)).set (i + 1) .second) := by
  unfold stL
  rw [h, h2]; simp [Value.category]
theorem W_ist (hd : P.1 m pc = some (.istore i, len, aux)) (h : L[i]? = some o) (ho : cat1 o = true) : W P m pc L (.int x :: S) k n H Q ↔ W P m (pc + len) (L.set i (.val (.int x))) S k n H Q := W_s hd rfl rfl (by simp [stp, stl_plain h ho])
theorem W_istn {i : Fin 4} (hd : P.1 m pc = some (.istore_n i, len, aux)) (h : L[i.val]? = some o) (ho : cat1 o = true) : W P m pc L (.int x :: S) k n H Q ↔ W P m (pc + len) (L.set i.val (.val (.int x))) S k n H Q := W_s hd rfl rfl (by simp [stp, stl_plain h ho])
theorem W_astn {i : Fin 4} (hd : P.1 m pc = some (.astore_n i, len, aux)) (h : L[i.val]? = some o) (ho : cat1 o = true) : W P m pc L (.ref a :: S) k n H Q ↔ W P m (pc + len) (L.set i.val (.val (.ref a))) S k n H Q := W_s hd rfl rfl (by simp [stp, stl_plain h ho])
theorem W_lst (hd : P.1 m pc = some (.lstore i, len, aux)) (h : L[i]? = some o) (h2 : L[i + 1]? = some o2) (ho : cat1 o = true) (ho2 : cat1 o2 = true) : W P m pc L (.long l :: S) k n H Q ↔ W P m (pc + len) ((L.set i (.val (.long l))).set (i + 1) .second) S k n H Q := W_s hd rfl rfl (by simp [stp, stL_plain h h2 ho ho2])
theorem W_lstn {i : Fin 4} (hd : P.1 m pc = some (.lstore_n i, len, aux)) (h : L[i.val]? = some o) (h2 : L[i.val + 1]? = some o2) (ho : cat1 o = true) (ho2 : cat1 o2 = true) : W P m pc L (.long l :: S) k n H Q ↔ W P m (pc + len) ((L.set i.val (.val (.long l))).set (i.val + 1) .second) S k n H Q := W_s hd rfl rfl (by simp [stp, stL_plain h h2 ho ho2])
theorem W_lst' {l' : Int64} (hd : P.1 m pc = some (.lstore i, len, aux)) (h : L[i]? = some (.val (.long l'))) (h2 : L[i + 1]? = some o2) : W P m pc L (.long l :: S) k n H Q ↔ W P m (pc + len) ((L.set i (.val (.long l))).set (i + 1) .second) S k n H Q := W_s hd rfl rfl (by simp [stp, stL_again h h2])
theorem W_lstn' {l' : Int64} {i : Fin 4} (hd : P.1 m pc = some (.lstore_n i, len, aux)) (h : L[i.val]? = some (.val (.long l'))) (h2 : L[i.val + 1]? = some o2) : W P m pc L (.long l :: S) k n H Q ↔ W P m (pc + len) ((L.set i.val (.val (.long l))).set (i.val + 1) .second) S k n H Q := W_s hd rfl rfl (by simp [stp, stL_again h h2])
theorem cs_nil : cs [] = 0 := by simp [cs]
theorem cs_int : cs (.int x :: S) = 1 + cs S := by simp [cs, Value.category]
theorem cs_ref : cs (.ref a :: S) = 1 + cs S := by simp [cs, Value.category]
theorem cs_long : cs (.long l :: S) = 2 + cs S := by simp [cs, Value.category]
end Sto
section Heap
variable {a j : Nat} {i x c : Int32} {v : Value} {l : Int64}
theorem W_getf {ix : Nat} (hd : P.1 m pc = some (.getfield ix, len, aux)) : W P m pc L (.ref a :: S) k n H Q ↔ (isO H a = true ∧ W P m (pc + len) L (fld H a aux.toNat :: S) k n H Q) := W_g hd rfl rfl rfl
theorem W_putf {ix : Nat} (hd : P.1 m pc = some (.putfield ix, len, aux)) : W P m pc L (v :: .ref a :: S) k n H Q ↔ ((isOw H a = true ∧ okv (P.2.2.1 aux.toNat) v = true) ∧ W P m (pc + len) L S k n (wr H a aux.toNat v) Q) := W_g hd rfl rfl rfl
theorem W_iaload (hd : P.1 m pc = some (.iaload, len, aux)) : W P m pc L (.int i :: .ref a :: S) k n H Q ↔ (inA H a .int i = true ∧ W P m (pc + len) L (elt H a i :: S) k n H Q) := W_g hd rfl rfl rfl
theorem W_baload (hd : P.1 m pc = some (.baload, len, aux)) : W P m pc L (.int i :: .ref a :: S) k n H Q ↔ ((inA H a .byte i = true ∨ inA H a .boolean i = true) ∧ W P m (pc + len) L (elt H a i :: S) k n H Q) := W_g hd rfl rfl rfl
theorem W_iastore (hd : P.1 m pc = some (.iastore, len, aux)) : W P m pc L (.int x :: .int i :: .ref a :: S) k n H Q ↔ (inAw H a .int i = true ∧ W P m (pc + len) L S k n (wr H a i.toNatClampNeg (.int x)) Q) := W_g hd rfl rfl rfl
theorem W_bastore (hd : P.1 m pc = some (.bastore, len, aux)) : W P m pc L (.int x :: .int i :: .ref a :: S) k n H Q ↔ (((inAw H a .byte i = true ∧ okv .byte (.int x) = true) ∨ (inAw H a .boolean i = true ∧ okv .boolean (.int x) = true)) ∧ W P m (pc + len) L S k n (wr H a i.toNatClampNeg (.int x)) Q) := W_g hd rfl rfl rfl
theorem W_alen (hd : P.1 m pc = some (.arraylength, len, aux)) : W P m pc L (.ref a :: S) k n H Q ↔ (isA H a = true ∧ W P m (pc + len) L (.int (alen H a).toInt32 :: S) k n H Q) := W_g hd rfl rfl rfl
theorem W_newarr {t : ArrayType} (hd : P.1 m pc = some (.newarray t, len, aux)) : W P m pc L (.int c :: S) k n H Q ↔ ((¬ c < 0 ∧ c.toNatClampNeg * 8 ≤ 536870912 ∧ k + 1 ≤ (rm P m).cells ∧ n + c.toNatClampNeg ≤ (rm P m).slots) ∧ W P m (pc + len) L (.ref H.1 :: S) (k + 1) (n + c.toNatClampNeg) (mkA (newarray.typeOf t) c.toNatClampNeg H) Q) := W_g hd rfl rfl rfl
theorem W_new {ix : Nat} (hd : P.1 m pc = some (.new ix, len, aux)) : W P m pc L S k n H Q ↔ ((0 ≤ aux ∧ k + 1 ≤ (rm P m).cells ∧ n + aux.toNat ≤ (rm P m).slots) ∧ W P m (pc + len) L (.ref H.1 :: S) (k + 1) (n + aux.toNat) (mkO P H) Q) := W_g hd rfl rfl rfl
theorem W_oinit {ix : Nat} (hd : P.1 m pc = some (.invokespecial ix, len, -1)) : W P m pc L (.ref a :: S) k n H Q ↔ ((1 ≤ (rm P m).frames ∧ cs S + 12 ≤ (rm P m).locals) ∧ W P m (pc + len) L S k n H Q) :=
  W_g (G := 1 ≤ (rm P m).frames ∧ cs S + 12 ≤ (rm P m).locals) hd rfl (by simp [cal, cal1]) (by simp [stp])
theorem W_irem {y : Int32} (hd : P.1 m pc = some (.irem, len, aux)) : W P m pc L (.int y :: .int x :: S) k n H Q ↔ (¬ y = 0 ∧ W P m (pc + len) L (.int (x % y) :: S) k n H Q) := W_n hd rfl rfl rfl
end Heap
section Call
variable {m' : Nat} {a r : List Value} {b : Nat}
theorem cal_eq (hk : kindOk ins (kd P m') = true) (hl : a.length = na P m') : cal P m ins (m' : Int) (a.reverse ++ r) k n H = if may P m m' a r k n H = true then some (m', a, r) else none := by
  have e1 : (a.reverse ++ r).take (na P m') = a.reverse := by rw [← hl, ← List.length_reverse (as := a)]; exact List.take_left ..
  have e2 : (a.reverse ++ r).drop (na P m') = r := by rw [← hl, ← List.length_reverse (as := a)]; exact List.drop_left ..
  have key : cal1 P m ins (m' : Int) (a.reverse ++ r) k n H = if may P m m' a r k n H = true then some (m', a, r) else none := by
    unfold cal1
    rw [Int.toNat_natCast, e1, e2, List.reverse_reverse]
    simp [hk]
  cases ins <;> first | exact key | (cases hk)
theorem W_call (hd : P.1 m pc = some (ins, len, (m' : Int))) (hr : ret P m ins S = none) (hk : kindOk ins (kd P m') = true) (hl : a.length = na P m') (hS : S = a.reverse ++ r) (hns : stp P m ins len (m' : Int) pc L S k n H = none) :
    W P m pc L S k n H Q ↔ (may P m m' a r k n H = true ∧ Cl P m' a H (fun v H' => W P m (pc + len) L (v.toList ++ r) (k + (rm P m').cells) (n + (rm P m').slots) H' Q)) := by
  have hc : cal P m ins (m' : Int) S k n H = if may P m m' a r k n H = true then some (m', a, r) else none := by rw [hS]; exact cal_eq hk hl
  by_cases g : may P m m' a r k n H = true
  · rw [if_pos g] at hc
    rw [W_c hd hr hc]; simp [g]
  · rw [if_neg g] at hc
    rw [W_q hd hr hc, hns]
    exact ⟨fun ⟨q, e, h⟩ => (by cases e), fun h => absurd h.1 g⟩
theorem W_inst {ix : Nat} {as : List Value} (hd : P.1 m pc = some (.invokevirtual ix, len, (m' : Int))) (hk : kindOk (.invokevirtual ix) (kd P m') = true) (hl : as.length + 1 = na P m') (hS : S = as.reverse ++ .ref b :: r)
    (h1 : (Sym.laidSlots (.ref b :: as)).length ≤ ml P m') (h2 : (rm P m').frames + 1 ≤ (rm P m).frames) (h3 : (rm P m').cells = 0 ∧ (rm P m').slots = 0) :
    W P m pc L S k n H Q ↔ ((isO H b = true ∧ cs r + (ml P m' + 11) + (rm P m').locals ≤ (rm P m).locals) ∧ Cl P m' (.ref b :: as) H (fun v H' => W P m (pc + len) L (v.toList ++ r) k n H' Q)) := by
  rw [W_call (a := .ref b :: as) (r := r) hd rfl hk hl (by rw [hS]; simp) rfl]
  have e : may P m m' (.ref b :: as) r k n H = true ↔ (isO H b = true ∧ cs r + (ml P m' + 11) + (rm P m').locals ≤ (rm P m).locals) := by
    have hk0 : kd P m' ≠ 0 := by intro h; rw [h] at hk; cases hk
    simp [may, rcv, h1, h2, h3, ← hl, hk0]; exact And.comm
  rw [e, h3.1, h3.2]; rfl
theorem W_stat {ix : Nat} (hd : P.1 m pc = some (.invokestatic ix, len, (m' : Int))) (hk : kindOk (.invokestatic ix) (kd P m') = true) (hl : a.length = na P m') (hS : S = a.reverse ++ r)
    (h1 : (Sym.laidSlots a).length ≤ ml P m') (h2 : (rm P m').frames + 1 ≤ (rm P m).frames) (h3 : (rm P m').cells = 0 ∧ (rm P m').slots = 0) :
    W P m pc L S k n H Q ↔ ((cs r + (ml P m' + 11) + (rm P m').locals ≤ (rm P m).locals) ∧ Cl P m' a H (fun v H' => W P m (pc + len) L (v.toList ++ r) k n H' Q)) := by
  rw [W_call (a := a) (r := r) hd rfl hk hl hS rfl]
  have e : may P m m' a r k n H = true ↔ (cs r + (ml P m' + 11) + (rm P m').locals ≤ (rm P m).locals) := by
    have hk0 : kd P m' = 0 := by simpa [kindOk] using hk
    simp [may, h1, h2, h3, hl, hk0]
  rw [e, h3.1, h3.2]; rfl
theorem W_init {ix : Nat} {as : List Value} (hd : P.1 m pc = some (.invokespecial ix, len, (m' : Int))) (hk : kindOk (.invokespecial ix) (kd P m') = true) (hl : as.length + 1 = na P m') (hS : S = as.reverse ++ .ref b :: r)
    (h1 : (Sym.laidSlots (.ref b :: as)).length ≤ ml P m') (h2 : (rm P m').frames + 1 ≤ (rm P m).frames) (h3 : ¬ ((rm P m').cells = 0 ∧ (rm P m').slots = 0)) :
    W P m pc L S k n H Q ↔ ((isO H b = true ∧ cs r + (ml P m' + 11) + (rm P m').locals ≤ (rm P m).locals ∧ k + (rm P m').cells ≤ (rm P m).cells ∧ n + (rm P m').slots ≤ (rm P m).slots) ∧ Cl P m' (.ref b :: as) H (fun v H' => W P m (pc + len) L (v.toList ++ r) (k + (rm P m').cells) (n + (rm P m').slots) H' Q)) := by
  have hns : stp P m (.invokespecial ix) len (m' : Int) pc L S k n H = none := by
    dsimp only [stp]
    split
    · rw [if_neg]; omega
    · rfl
  rw [W_call (a := .ref b :: as) (r := r) hd rfl hk hl (by rw [hS]; simp) hns]
  have e : may P m m' (.ref b :: as) r k n H = true ↔ (isO H b = true ∧ cs r + (ml P m' + 11) + (rm P m').locals ≤ (rm P m).locals ∧ k + (rm P m').cells ≤ (rm P m).cells ∧ n + (rm P m').slots ≤ (rm P m).slots) := by
    have hk0 : kd P m' ≠ 0 := by intro h; rw [h] at hk; cases hk
    simp only [may, rcv, h1, h2, h3, ← hl, hk0, List.length_cons, decide_true, decide_false, Bool.true_and, Bool.false_or, Bool.and_eq_true, decide_eq_true_eq]
    constructor
    · rintro ⟨⟨q1, q2⟩, q3⟩; exact ⟨q3, q1, q2⟩
    · rintro ⟨q3, q1, q2⟩; exact ⟨⟨q1, q2⟩, q3⟩
  rw [e]
end Call
section Last
theorem W_rz {x : Int32} (hd : P.1 m pc = some (.ireturn, len, aux)) (hr : rt P m = some .boolean) : W P m pc L (.int x :: S) k n H Q ↔ ((x = 0 ∨ x = 1) ∧ Q (some (.int x)) H) := by
  by_cases g : x = 0 ∨ x = 1
  · rw [W_r hd (by simp only [ret, hr]; rw [if_pos g])]; simp [g]
  · rw [W_q hd (by simp only [ret, hr]; rw [if_neg g]) rfl]
    constructor
    · rintro ⟨q, e, -⟩; cases e
    · intro h; exact absurd h.1 g
theorem W_newarr' {t : ArrayType} {c : Int32} {N : Nat} (hd : P.1 m pc = some (.newarray t, len, aux)) (hN : c.toNatClampNeg = N) (h1 : ¬ c < 0) (h2 : N * 8 ≤ 536870912) :
    W P m pc L (.int c :: S) k n H Q ↔ ((k + 1 ≤ (rm P m).cells ∧ n + N ≤ (rm P m).slots) ∧ W P m (pc + len) L (.ref H.1 :: S) (k + 1) (n + N) (mkA (newarray.typeOf t) N H) Q) := by
  rw [W_newarr hd, hN]; simp [h1, h2]
theorem W_new' {ix : Nat} (hd : P.1 m pc = some (.new ix, len, aux)) (h0 : 0 ≤ aux) : W P m pc L S k n H Q ↔ ((k + 1 ≤ (rm P m).cells ∧ n + aux.toNat ≤ (rm P m).slots) ∧ W P m (pc + len) L (.ref H.1 :: S) (k + 1) (n + aux.toNat) (mkO P H) Q) := by
  rw [W_new hd]; simp [h0]
def tswW (f : Nat → Prop) (x : Int32) (d : Nat) : Int → List Nat → Prop
  | _, [] => f d
  | lo, q :: qs => if x = Int32.ofInt lo then f q else tswW f x d (lo + 1) qs
theorem tswW_eq (f : Nat → Prop) (x : Int32) (d : Nat) : ∀ (qs : List Nat) (lo : Int), -2147483648 ≤ lo → lo + qs.length ≤ 2147483648 → (tswW f x d lo qs ↔ f (if x.toInt < lo ∨ lo + qs.length ≤ x.toInt then d else qs.getD (x.toInt - lo).toNat d)) := by
  intro qs
  induction qs with
  | nil => intro lo h1 h2; simp only [tswW, List.length_nil]; rw [if_pos (by omega)]
  | cons q qs ih =>
    intro lo h1 h2
    simp only [List.length_cons] at h2 ⊢
    have hx : x = Int32.ofInt lo ↔ x.toInt = lo := by
      rw [← Int32.toInt_inj, Int32.toInt_ofInt_of_le (by omega) (by omega)]
    simp only [tswW]
    by_cases e : x.toInt = lo
    · rw [if_pos (hx.mpr e), if_neg (by omega)]
      have : (x.toInt - lo).toNat = 0 := by omega
      rw [this]; rfl
    · rw [if_neg (fun h => e (hx.mp h)), ih (lo + 1) (by omega) (by omega)]
      by_cases g : x.toInt < lo ∨ lo + ((qs.length : Int) + 1) ≤ x.toInt
      · rw [if_pos (by omega), if_pos (by omega)]
      · rw [if_neg (by omega), if_neg (by omega)]
        have : (x.toInt - lo).toNat = (x.toInt - (lo + 1)).toNat + 1 := by omega
        rw [this]; rfl
theorem W_tsw {x : Int32} {d lo hi : Int} {os : Array Int} {qs : List Nat} {dq : Nat} (hd : P.1 m pc = some (.tableswitch d lo hi os, len, aux)) (h0 : jmp pc d = some dq) (h1 : os.toList.map (jmp pc) = qs.map some) (h2 : -2147483648 ≤ lo ∧ lo + qs.length ≤ 2147483648 ∧ hi = lo + qs.length - 1) :
    W P m pc L (.int x :: S) k n H Q ↔ tswW (fun q => W P m q L S k n H Q) x dq lo qs := by
  rw [tswW_eq _ _ _ _ _ h2.1 h2.2.1]
  have hlen : os.size = qs.length := by have := congrArg List.length h1; simpa using this
  refine W_s hd rfl rfl ?_
  show (if x.toInt < lo ∨ x.toInt > hi then (jmp pc d).map fun q => (q, L, S, k, n, H) else (os[(x.toInt - lo).toNat]?).bind fun o => (jmp pc o).map fun q => (q, L, S, k, n, H)) = _
  by_cases g : x.toInt < lo ∨ x.toInt > hi
  · rw [if_pos g, if_pos (by omega), h0]; rfl
  · rw [if_neg g, if_neg (by omega)]
    have hi2 : (x.toInt - lo).toNat < qs.length := by omega
    have e1 : (os.toList.map (jmp pc))[(x.toInt - lo).toNat]? = some (some (qs.getD (x.toInt - lo).toNat dq)) := by
      rw [h1]; simp [hi2]
    rw [List.getElem?_map, Array.getElem?_toList] at e1
    obtain ⟨o, ho, hj⟩ := Option.map_eq_some_iff.mp e1
    rw [ho]; simp [hj]
theorem cmpL_eq {x y : Int64} : Jvm.Free.XT.cmpL x y = 0 ↔ x = y := by
  unfold Jvm.Free.XT.cmpL
  by_cases h1 : y < x
  · rw [if_pos h1]; exact ⟨fun h => absurd h (by decide), fun h => by subst h; rw [Int64.lt_iff_toInt_lt] at h1; omega⟩
  · rw [if_neg h1]
    by_cases h2 : x = y
    · rw [if_pos h2]; exact ⟨fun _ => h2, fun _ => rfl⟩
    · rw [if_neg h2]; exact ⟨fun h => absurd h (by decide), fun h => absurd h h2⟩
end Last
end Rules
abbrev LW : Type := (Nat → Nat → Option (Instr × Nat × Int)) × (Nat → MInfo)
abbrev Row : Type := Nat × Instr × Nat × Int
end Jvm.JX

namespace Jvm.JX
open Sem ClassFile Op Lib
abbrev St : Type := (Nat → Int32) × (Nat → Int64) × (Nat → Nat → Int32) × (Nat → Nat → Int64)
abbrev Lay : Type := List (FieldType × Nat) × List (FieldType × Nat)
def sI (s : St) (k : Nat) : Int32 := s.1 k
def sJ (s : St) (k : Nat) : Int64 := s.2.1 k
def sA (s : St) (t i : Nat) : Int32 := s.2.2.1 t i
def sB (s : St) (t i : Nat) : Int64 := s.2.2.2 t i
def uI (s : St) (k : Nat) (v : Int32) : St := (fun j => if j = k then v else s.1 j, s.2.1, s.2.2.1, s.2.2.2)
def uJ (s : St) (k : Nat) (v : Int64) : St := (s.1, fun j => if j = k then v else s.2.1 j, s.2.2.1, s.2.2.2)
def uA (s : St) (t i : Nat) (v : Int32) : St := (s.1, s.2.1, fun t' i' => if t' = t ∧ i' = i then v else s.2.2.1 t' i', s.2.2.2)
def uB (s : St) (t i : Nat) (v : Int64) : St := (s.1, s.2.1, s.2.2.1, fun t' i' => if t' = t ∧ i' = i then v else s.2.2.2 t' i')
def z0 : St := (fun _ => 0, fun _ => 0, fun _ _ => 0, fun _ _ => 0)
section St
variable {s : St} {k j t i t' i' : Nat} {v : Int32} {w : Int64}
theorem sI_uI : sI (uI s k v) j = if j = k then v else sI s j := by simp [sI, sJ, sA, sB, uI, uJ, uA, uB, z0]
theorem sI_uA : sI (uA s t i v) j = sI s j := by simp [sI, sJ, sA, sB, uI, uJ, uA, uB, z0]
theorem sJ_uI : sJ (uI s k v) j = sJ s j := by simp [sI, sJ, sA, sB, uI, uJ, uA, uB, z0]
theorem sJ_uA : sJ (uA s t i v) j = sJ s j := by simp [sI, sJ, sA, sB, uI, uJ, uA, uB, z0]
theorem sA_uI : sA (uI s k v) t' i' = sA s t' i' := by simp [sI, sJ, sA, sB, uI, uJ, uA, uB, z0]
theorem sA_uA : sA (uA s t i v) t' i' = if t' = t ∧ i' = i then v else sA s t' i' := by simp [sI, sJ, sA, sB, uI, uJ, uA, uB, z0]
theorem sB_uI : sB (uI s k v) t' i' = sB s t' i' := by simp [sI, sJ, sA, sB, uI, uJ, uA, uB, z0]
theorem sB_uA : sB (uA s t i v) t' i' = sB s t' i' := by simp [sI, sJ, sA, sB, uI, uJ, uA, uB, z0]
theorem sA_z0 : sA z0 t i = 0 := by simp [sI, sJ, sA, sB, uI, uJ, uA, uB, z0]
theorem sB_z0 : sB z0 t i = 0 := by simp [sI, sJ, sA, sB, uI, uJ, uA, uB, z0]
theorem St_ext {s s' : St} (h1 : ∀ k, sI s k = sI s' k) (h2 : ∀ k, sJ s k = sJ s' k) (h3 : ∀ t i, sA s t i = sA s' t i) (h4 : ∀ t i, sB s t i = sB s' t i) : s = s' :=
  Prod.ext (funext h1) (Prod.ext (funext h2) (Prod.ext (funext fun t => funext (h3 t)) (funext fun t => funext (h4 t))))
end St
def zr (s : St) (t : Nat) : Prop := (∀ i, sA s t i = 0) ∧ ∀ i, sB s t i = 0
theorem zr_z0 {t : Nat} : zr z0 t = True := by simp [zr, sA_z0, sB_z0]
def fvl (y : Lay) (j p : Nat) (s : St) (k : Nat) : Value := match y.1[k]? with
  | some (.long, _) => .long (sJ s k)
  | some (.array _, t) => if t ≤ j then .ref (p + t) else .null
  | _ => .int (sI s k)
def blk (y : Lay) (j p : Nat) (s : St) : Nat → Cel
  | 0 => (.object "", y.1.length, true, fvl y j p s)
  | t + 1 => match y.2[t]? with
    | some (.long, n) => (.array .long, n, true, fun i => .long (sB s (t + 1) i))
    | some (ty, n) => (.array ty, n, true, fun i => .int (sA s (t + 1) i))
    | none => (.char, 0, false, fun _ => .null)
def put (y : Lay) (j : Nat) (H : AH) (p : Nat) (s : St) : AH := (H.1, fun a => if p ≤ a ∧ a ≤ p + j then blk y j p s (a - p) else H.2 a)
section Put
variable {y : Lay} {j : Nat} {H : AH} {p : Nat} {s : St} {k t n : Nat} {ty : FieldType} {i : Int32}
theorem put_0 : (put y j H p s).2 p = (.object "", y.1.length, true, fvl y j p s) := by simp [put, blk]
theorem put_t (ht : t ≤ j) : (put y j H p s).2 (p + t) = blk y j p s t := by simp [put, ht]
theorem put_ot {a : Nat} (h : a < p ∨ p + j < a) : (put y j H p s).2 a = H.2 a := by
  have : ¬ (p ≤ a ∧ a ≤ p + j) := by omega
  simp [put, this]
theorem isO_put : isO (put y j H p s) p = true := by simp [isO, put_0]
theorem isOw_put : isOw (put y j H p s) p = true := by simp [isOw, isO_put, put_0]
theorem fld_I (h : y.1[k]? = some (ty, t)) (hl : ty ≠ .long) (ha : ∀ e, ty ≠ .array e) : fld (put y j H p s) p k = .int (sI s k) := by
  simp only [fld, put_0, fvl, h]; cases ty <;> first | rfl | exact absurd rfl hl | exact absurd rfl (ha _)
theorem fld_R (h : y.1[k]? = some (.array ty, t)) (ht : t ≤ j) : fld (put y j H p s) p k = .ref (p + t) := by simp only [fld, put_0, fvl, h, ht, if_true]
theorem blk_I (h : y.2[t]? = some (ty, n)) (hl : ty ≠ .long) : blk y j p s (t + 1) = (.array ty, n, true, fun i => .int (sA s (t + 1) i)) := by
  simp only [blk, h]
theorem clamp_lt {i : Int32} {n : Nat} : (¬ i < 0 ∧ i.toNatClampNeg < n) ↔ (0 ≤ i.toInt ∧ i.toInt < n) := by
  simp only [Int32.lt_iff_toInt_lt, Int32.toNatClampNeg, Int32.reduceToInt]; omega
theorem inA_I (h : y.2[t]? = some (ty, n)) (hl : ty ≠ .long) (ht : t + 1 ≤ j) : inA (put y j H p s) (p + (t + 1)) ty i = true ↔ (0 ≤ i.toInt ∧ i.toInt < n) := by
  rw [← clamp_lt]; simp [inA, put_t ht, blk_I h hl]
theorem inA_no {ty' : FieldType} (h : y.2[t]? = some (ty, n)) (hl : ty ≠ .long) (ht : t + 1 ≤ j) (hne : ty ≠ ty') : inA (put y j H p s) (p + (t + 1)) ty' i = true ↔ False := by
  simp [inA, put_t ht, blk_I h hl, hne]
theorem inAw_I (h : y.2[t]? = some (ty, n)) (hl : ty ≠ .long) (ht : t + 1 ≤ j) : inAw (put y j H p s) (p + (t + 1)) ty i = true ↔ (0 ≤ i.toInt ∧ i.toInt < n) := by
  rw [← inA_I (H := H) (p := p) (s := s) h hl ht]; simp [inAw, put_t ht, blk_I h hl]
theorem inAw_no {ty' : FieldType} (h : y.2[t]? = some (ty, n)) (hl : ty ≠ .long) (ht : t + 1 ≤ j) (hne : ty ≠ ty') : inAw (put y j H p s) (p + (t + 1)) ty' i = true ↔ False := by
  simp [inAw, inA, put_t ht, blk_I h hl, hne]
theorem elt_I (h : y.2[t]? = some (ty, n)) (hl : ty ≠ .long) (ht : t + 1 ≤ j) : elt (put y j H p s) (p + (t + 1)) i = .int (sA s (t + 1) i.toNatClampNeg) := by
  simp only [elt, put_t ht, blk_I h hl]
theorem put_wr {s' : St} {t q : Nat} {v : Value} (ht : t ≤ j) (hb : ∀ t', blk y j p s' t' = if t' = t then ((blk y j p s t).1, (blk y j p s t).2.1, (blk y j p s t).2.2.1, fun i => if i = q then v else (blk y j p s t).2.2.2 i) else blk y j p s t') :
    wr (put y j H p s) (p + t) q v = put y j H p s' := by
  refine Prod.ext rfl (funext fun a => ?_)
  simp only [wr, put_t ht]
  by_cases e : a = p + t
  · subst e; simp [put, ht, hb]
  · simp only [e, if_false, put]
    by_cases g : p ≤ a ∧ a ≤ p + j
    · have : a - p ≠ t := by omega
      simp [g, hb, this]
    · simp [g]
theorem fvl_uI {v : Int32} (h : y.1[k]? = some (ty, t)) (hl : ty ≠ .long) (ha : ∀ e, ty ≠ .array e) (i : Nat) : fvl y j p (uI s k v) i = if i = k then .int v else fvl y j p s i := by
  by_cases e : i = k
  · subst e; simp only [fvl, h, if_true]; cases ty <;> first | (simp [sI_uI]; done) | exact absurd rfl hl | exact absurd rfl (ha _)
  · simp only [fvl, e, if_false, sI_uI, sJ_uI]
theorem wr_I {v : Int32} (h : y.1[k]? = some (ty, t)) (hl : ty ≠ .long) (ha : ∀ e, ty ≠ .array e) : wr (put y j H p s) p k (.int v) = put y j H p (uI s k v) := by
  refine put_wr (t := 0) (Nat.zero_le _) fun t' => ?_
  cases t' with
  | zero => simp only [blk, if_true]; exact congrArg (fun f => (_, _, _, f)) (funext fun i => fvl_uI h hl ha i)
  | succ t' => simp [blk, sA_uI, sB_uI]
theorem wr_A {v : Int32} {q : Nat} (h : y.2[t]? = some (ty, n)) (hl : ty ≠ .long) (ht : t + 1 ≤ j) : wr (put y j H p s) (p + (t + 1)) q (.int v) = put y j H p (uA s (t + 1) q v) := by
  refine put_wr ht fun t' => ?_
  by_cases e : t' = t + 1
  · subst e
    simp only [blk_I h hl, if_true, sA_uA, true_and]
    exact congrArg (fun f => (_, _, _, f)) (funext fun i => by split <;> rfl)
  · simp only [e, if_false]
    cases t' with
    | zero => rfl
    | succ t' => have : ¬ t' = t := fun q => e (by rw [q]); simp [blk, sA_uA, sB_uA, this]
theorem mkO_put {P : Prog} (hn : P.2.2.2 = y.1.length) (hf : ∀ k, defaultValue (P.2.2.1 k) = fvl y 0 H.1 z0 k) : mkO P H = put y 0 (H.1 + 1, H.2) H.1 z0 := by
  refine Prod.ext rfl (funext fun a => ?_)
  by_cases e : a = H.1
  · subst e; simp only [mkO, if_true, put_0, hn]; exact congrArg (fun f => (_, _, _, f)) (funext fun k => hf k)
  · have : ¬ (H.1 ≤ a ∧ a ≤ H.1 + 0) := by omega
    simp only [mkO, put, e, if_false, if_neg this]
theorem mkA_put {h : Nat → Cel} (h1 : y.1[k]? = some (.array ty, j + 1)) (h2 : y.2[j]? = some (ty, n)) (hu : (List.range y.1.length).all (fun k' => decide (k' = k) || ((y.1.getD k' (.int, 0)).2 != j + 1)) = true) (hz : ∀ i, sA s (j + 1) i = 0) (hz' : ∀ i, sB s (j + 1) i = 0) (hty : ty = .int ∨ ty = .long ∨ ty = .byte ∨ ty = .boolean) :
    wr (mkA ty n (put y j (p + (j + 1), h) p s)) p k (.ref (p + (j + 1))) = put y (j + 1) (p + (j + 1) + 1, h) p s := by
  refine Prod.ext rfl (funext fun a => ?_)
  have hp : ¬ p = p + (j + 1) := by omega
  have hN : (put y j (p + (j + 1), h) p s).1 = p + (j + 1) := rfl
  by_cases e : a = p
  · subst e
    simp only [wr, mkA, hN, if_true, hp, if_false, put_0]
    refine congrArg (fun f => (_, _, _, f)) (funext fun i => ?_)
    by_cases e2 : i = k
    · subst e2; simp [fvl, h1]
    · simp only [e2, if_false, fvl]
      cases hq : y.1[i]? with
      | none => rfl
      | some x =>
        obtain ⟨x1, x2⟩ := x
        cases x1 <;> try rfl
        rename_i el
        have : x2 ≠ j + 1 := fun q => by
          have hlt : i < y.1.length := (List.getElem?_eq_some_iff.mp hq).1
          have u := List.all_eq_true.mp hu i (List.mem_range.mpr hlt)
          simp [e2, hq, q] at u
        have : (x2 ≤ j + 1) = (x2 ≤ j) := propext ⟨fun _ => by omega, fun _ => by omega⟩
        simp [this]
  · simp only [wr, mkA, hN, e, if_false]
    by_cases e2 : a = p + (j + 1)
    · subst e2
      simp only [if_true, put_t (Nat.le_refl (j + 1))]
      rcases hty with rfl | rfl | rfl | rfl
      · simp only [blk, h2, hz]; rfl
      · simp only [blk, h2, hz']; rfl
      · simp only [blk, h2, hz]; rfl
      · simp only [blk, h2, hz]; rfl
    · simp only [e2, if_false, put]
      by_cases g : p ≤ a ∧ a ≤ p + j
      · have g2 : p ≤ a ∧ a ≤ p + (j + 1) := by omega
        simp only [g, g2, and_self, if_true]
        obtain ⟨t, ht⟩ : ∃ t, a - p = t + 1 := ⟨a - p - 1, by omega⟩
        rw [ht]; rfl
      · have g2 : ¬ (p ≤ a ∧ a ≤ p + (j + 1)) := by omega
        simp only [g, g2, if_false]
theorem isOw_mk {h : Nat → Cel} {c : Nat} : isOw (mkA ty n (put y j (p + (c + 1), h) p s)) p = true := by
  have : ¬ p = p + (c + 1) := by omega
  have hN : (put y j (p + (c + 1), h) p s).1 = p + (c + 1) := rfl
  simp [isOw, isO, mkA, hN, this, put_0]
theorem put_fst : (put y j H p s).1 = H.1 := by simp [put]
theorem cl_unf {P : Prog} {m : Nat} {a : List Value} {L : List Slot} {Q : Option Value → AH → Prop} (h : ent P m a = L) : Cl P m a H Q ↔ W P m 0 L [] 0 0 H Q := by unfold Cl; rw [h]
theorem inA_ot {a : Nat} (h : a < p ∨ p + j < a) : inA (put y j H p s) a ty i = inA H a ty i := by simp only [inA, put_ot h]
theorem isA_ot {a : Nat} (h : a < p ∨ p + j < a) : isA (put y j H p s) a = isA H a := by simp only [isA, put_ot h]
theorem elt_ot {a : Nat} (h : a < p ∨ p + j < a) : elt (put y j H p s) a i = elt H a i := by simp only [elt, put_ot h]
theorem alen_ot {a : Nat} (h : a < p ∨ p + j < a) : alen (put y j H p s) a = alen H a := by simp only [alen, put_ot h]
end Put
def noc : Cel := (.char, 0, false, fun _ => .null)
def H1 (n a len : Nat) (f : Nat → Int32) : AH := (n, fun b => if b = a then (.array .int, len, false, fun i => .int (f i)) else noc)
theorem isA_H1 {n a len : Nat} {f : Nat → Int32} : isA (H1 n a len f) a = true := by simp [isA, H1]
theorem alen_H1 {n a len : Nat} {f : Nat → Int32} : alen (H1 n a len f) a = len := by simp [alen, H1]
theorem inA_H1 {n a len : Nat} {f : Nat → Int32} {i : Int32} : inA (H1 n a len f) a .int i = true ↔ (0 ≤ i.toInt ∧ i.toInt < len) := by rw [← clamp_lt]; simp [inA, H1]
theorem elt_H1 {n a len : Nat} {f : Nat → Int32} {i : Int32} : elt (H1 n a len f) a i = .int (f i.toNatClampNeg) := by simp [elt, H1]
def cl (lo hi v : Int32) : Int32 := if v < lo then lo else if hi < v then hi else v
section Okv
variable {x : Int32} {l : Int64} {a : Nat} {t : FieldType}
theorem okv_int : (okv .int (.int x) = true) = True := by simp [okv]
theorem okv_ref : (okv (.array t) (.ref a) = true) = True := by simp [okv]
end Okv
end Jvm.JX

namespace Jvm.JX
open Sem ClassFile Op Lib
section Num
theorem ia {x y : Int32} (h1 : -2147483648 ≤ x.toInt + y.toInt) (h2 : x.toInt + y.toInt ≤ 2147483647) : (x + y).toInt = x.toInt + y.toInt := by
  rw [Int32.toInt_add]; exact Int.bmod_eq_of_le (by omega) (by omega)
theorem isb {x y : Int32} (h1 : -2147483648 ≤ x.toInt - y.toInt) (h2 : x.toInt - y.toInt ≤ 2147483647) : (x - y).toInt = x.toInt - y.toInt := by
  rw [Int32.toInt_sub]; exact Int.bmod_eq_of_le (by omega) (by omega)
theorem im {x y : Int32} (h1 : -2147483648 ≤ x.toInt * y.toInt) (h2 : x.toInt * y.toInt ≤ 2147483647) : (x * y).toInt = x.toInt * y.toInt := by
  rw [Int32.toInt_mul]; exact Int.bmod_eq_of_le (by omega) (by omega)
theorem lt32 {x y : Int32} : x < y ↔ x.toInt < y.toInt := Int32.lt_iff_toInt_lt
theorem eq32 {x y : Int32} : x = y ↔ x.toInt = y.toInt := Int32.toInt_inj.symm
theorem rg32 (x : Int32) : -2147483648 ≤ x.toInt ∧ x.toInt ≤ 2147483647 := ⟨Int32.le_toInt x, by have := Int32.toInt_lt x; omega⟩
theorem cln {i : Int32} : i.toNatClampNeg = i.toInt.toNat := rfl
theorem cl_rg {lo hi : Int32} (v : Int32) (h : lo.toInt ≤ hi.toInt) : lo.toInt ≤ (cl lo hi v).toInt ∧ (cl lo hi v).toInt ≤ hi.toInt := by
  unfold cl
  by_cases h1 : v < lo
  · rw [if_pos h1]; omega
  · rw [if_neg h1]
    by_cases h2 : hi < v
    · rw [if_pos h2]; omega
    · rw [if_neg h2]; rw [lt32] at h1 h2; omega
end Num
section Fill
def fA (s : St) (t lo hi : Nat) (v : Int32) : St := (s.1, s.2.1, fun t' i => if t' = t ∧ lo ≤ i ∧ i < hi then v else s.2.2.1 t' i, s.2.2.2)
variable {s : St} {t lo hi k i t' : Nat} {v : Int32}
theorem sI_fA : sI (fA s t lo hi v) k = sI s k := by simp [sI, fA]
theorem sJ_fA : sJ (fA s t lo hi v) k = sJ s k := by simp [sJ, fA]
theorem sA_fA : sA (fA s t lo hi v) t' i = if t' = t ∧ lo ≤ i ∧ i < hi then v else sA s t' i := by simp [sA, fA]
theorem sB_fA : sB (fA s t lo hi v) t' i = sB s t' i := by simp [sB, fA]
theorem fA_nil (h : hi ≤ lo) : fA s t lo hi v = s := by
  refine St_ext (fun k => sI_fA) (fun k => sJ_fA) (fun t' i => ?_) (fun t' i => sB_fA)
  rw [sA_fA, if_neg (by omega)]
end Fill
section Cnt
def cnt (f : Nat → Bool) : Nat → Nat → Nat
  | _, 0 => 0
  | j, k + 1 => (if f j = true then 1 else 0) + cnt f (j + 1) k
theorem cnt_none {f : Nat → Bool} : ∀ (k j : Nat), (∀ i, j ≤ i → i < j + k → f i = false) → cnt f j k = 0
  | 0, _, _ => rfl
  | k + 1, j, h => by
    have h1 := h j (Nat.le_refl _) (by omega)
    simp only [cnt, h1]
    rw [cnt_none k (j + 1) fun i a b => h i (by omega) (by omega)]; rfl
theorem cnt_congr {f g : Nat → Bool} : ∀ (k j : Nat), (∀ i, j ≤ i → i < j + k → f i = g i) → cnt f j k = cnt g j k
  | 0, _, _ => rfl
  | k + 1, j, h => by simp only [cnt]; rw [h j (Nat.le_refl _) (by omega), cnt_congr k (j + 1) fun i a b => h i (by omega) (by omega)]
theorem ofNat_one_add (c : Int32) (x : Nat) : c + 1 + Int32.ofNat x = c + Int32.ofNat (1 + x) := by
  rw [Int32.ofNat_add, Int32.add_assoc]; rfl
theorem add_ofNat_zero (c : Int32) : c + Int32.ofNat 0 = c := Int32.add_zero c
end Cnt
section Ite
variable {P : Prog} {m pc : Nat} {L : List Slot} {S : List Value} {k n : Nat} {H : AH} {Q : Option Value → AH → Prop} {c : Prop} [Decidable c]
end Ite
end Jvm.JX

namespace Jvm.JX
open Sem ClassFile Op Lib
section Forget
variable {P : Prog} {m pc len k n i : Nat} {aux : Int} {ins : Instr} {L L' M : List Slot} {S : List Value} {H : AH} {v : Value} {Q : Option Value → AH → Prop}
def lel (L L' : List Slot) : Prop := ∀ i : Nat, L[i]? = L'[i]? ∨ (L[i]? = some .unset ∧ ∃ o, L'[i]? = some o ∧ cat1 o = true)
theorem lel_refl : lel L L := fun _ => Or.inl rfl
theorem lel_cons {a : Slot} (h : lel L L') : lel (a :: L) (a :: L') := fun i => by cases i with
  | zero => exact Or.inl rfl
  | succ i => simpa using h i
theorem lel_un {o : Slot} (ho : cat1 o = true) (h : lel L L') : lel (.unset :: L) (o :: L') := fun i => by cases i with
  | zero => exact Or.inr ⟨rfl, o, rfl, ho⟩
  | succ i => simpa using h i
theorem lel_len (h : lel L L') : L.length = L'.length := by
  rcases Nat.lt_trichotomy L.length L'.length with g | g | g
  · have h1 : L[L.length]? = none := List.getElem?_eq_none (Nat.le_refl _)
    rcases h L.length with e | ⟨e, -⟩
    · rw [h1] at e; have := List.getElem?_eq_none_iff.mp e.symm; omega
    · rw [h1] at e; cases e
  · exact g
  · have h1 : L'[L'.length]? = none := List.getElem?_eq_none (Nat.le_refl _)
    rcases h L'.length with e | ⟨-, o, e, -⟩
    · rw [h1] at e; have := List.getElem?_eq_none_iff.mp e; omega
    · rw [h1] at e; cases e
theorem lel_set {a : Slot} (h : lel L L') : lel (L.set i a) (L'.set i a) := fun j => by
  rw [List.getElem?_set, List.getElem?_set, lel_len h]
  by_cases e : i = j
  · rw [if_pos e, if_pos e]; exact Or.inl rfl
  · rw [if_neg e, if_neg e]; exact h j
theorem ldI_le (h : lel L L') (e : ldI L i = some v) : ldI L' i = some v := by
  unfold ldI at *; rcases h i with g | ⟨g, -⟩
  · rw [← g]; exact e
  · rw [g] at e; cases e
theorem ldJ_le (h : lel L L') (e : ldJ L i = some v) : ldJ L' i = some v := by
  unfold ldJ at *; rcases h i with g | ⟨g, -⟩
  · rw [← g]; exact e
  · rw [g] at e; cases e
theorem ldR_le (h : lel L L') (e : ldR L i = some v) : ldR L' i = some v := by
  unfold ldR at *; rcases h i with g | ⟨g, -⟩
  · rw [← g]; exact e
  · rw [g] at e; cases e
theorem stl_le (h : lel L L') (e : stl L i v = some M) : ∃ M', stl L' i v = some M' ∧ lel M M' := by
  unfold stl at *
  rcases h i with g | ⟨g, o, g', ho⟩
  · rw [← g, ← lel_len h]
    revert e; generalize L[i]? = x; intro e
    match x, e with
    | some .unset, e => cases e; exact ⟨_, rfl, lel_set h⟩
    | some (.val w), e =>
      simp only at e ⊢
      by_cases c : w.category = 1
      · simp only [c, if_true] at e ⊢; cases e; exact ⟨_, rfl, lel_set h⟩
      · simp only [c, if_false] at e ⊢
        by_cases d : i + 1 < L.length
        · simp only [d, if_true] at e ⊢; cases e; exact ⟨_, rfl, lel_set (lel_set h)⟩
        · simp only [d, if_false] at e; cases e
    | some .second, e =>
      simp only at e ⊢
      by_cases d : 1 ≤ i
      · simp only [d, if_true] at e ⊢; cases e; exact ⟨_, rfl, lel_set (lel_set h)⟩
      · simp only [d, if_false] at e; cases e
    | none, e => cases e
  · rw [g] at e; cases e; rw [g']
    match o, ho with
    | .unset, _ => exact ⟨_, rfl, lel_set h⟩
    | .val w, ho =>
      have c : w.category = 1 := by simpa [cat1] using ho
      simp only [c, if_true]; exact ⟨_, rfl, lel_set h⟩
theorem stL_le (h : lel L L') (e : stL L i v = some M) : ∃ M', stL L' i v = some M' ∧ lel M M' := by
  have key : ∀ o2, L[i + 1]? = some o2 → ∃ o3, L'[i + 1]? = some o3 ∧ (cat1 o2 = true → cat1 o3 = true) := by
    intro o2 e2
    rcases h (i + 1) with g | ⟨g, o, g', ho⟩
    · exact ⟨o2, by rw [← g]; exact e2, id⟩
    · exact ⟨o, g', fun _ => ho⟩
  unfold stL at *
  have hs : lel ((L.set i (.val v)).set (i + 1) .second) ((L'.set i (.val v)).set (i + 1) .second) := lel_set (lel_set h)
  cases e2 : L[i + 1]? with
  | none => rw [e2] at e; revert e; cases L[i]? with
    | none => intro e; cases e
    | some o => intro e; cases o <;> cases e
  | some o2 =>
    obtain ⟨o3, g3, c3⟩ := key o2 e2
    rw [e2] at e; rw [g3]
    rcases h i with g | ⟨g, o, g', ho⟩
    · rw [← g]
      revert e; generalize L[i]? = x; intro e
      match x, e with
      | some .unset, e =>
        simp only at e ⊢
        by_cases c : cat1 o2 = true
        · simp only [c, if_true] at e; cases e; simp only [c3 c, if_true]; exact ⟨_, rfl, hs⟩
        · simp only [c] at e; cases e
      | some (.val w), e =>
        simp only at e ⊢
        by_cases d : w.category = 2
        · simp only [d, if_true] at e ⊢; cases e; exact ⟨_, rfl, hs⟩
        · simp only [d, if_false] at e ⊢
          by_cases c : cat1 o2 = true
          · simp only [c, if_true] at e; cases e; simp only [c3 c, if_true]; exact ⟨_, rfl, hs⟩
          · simp only [c] at e; cases e
      | some .second, e => cases e
      | none, e => cases e
    · rw [g] at e; rw [g']
      simp only at e
      by_cases c : cat1 o2 = true
      · simp only [c, if_true] at e; cases e
        match o, ho with
        | .unset, _ => simp only [c3 c, if_true]; exact ⟨_, rfl, hs⟩
        | .val w, ho =>
          by_cases d : w.category = 2
          · simp only [d, if_true]; exact ⟨_, rfl, hs⟩
          · simp only [d, if_false, c3 c, if_true]; exact ⟨_, rfl, hs⟩
      · simp only [c] at e; cases e
def loc : Instr → Bool
  | .iload _ | .iload_n _ | .lload _ | .lload_n _ | .aload _ | .aload_n _ | .istore _ | .istore_n _ | .astore _ | .astore_n _ | .lstore _ | .lstore_n _ | .iinc _ _ => true
  | _ => false
theorem stp_fr {q : Fm} (hl : loc ins = false) (e : stp P m ins len aux pc L S k n H = some q) : q.2.1 = L ∧ stp P m ins len aux pc L' S k n H = some (q.1, L', q.2.2) := by
  cases ins <;> first
    | (cases hl; done)
    | (simp only [stp] at e ⊢; cases e; done)
    | (simp only [stp] at e ⊢; cases e; exact ⟨rfl, rfl⟩)
    | (simp only [stp, Option.map_eq_some_iff] at e ⊢; (repeat' split at e) <;> first
        | (cases e; done)
        | (cases e; exact ⟨rfl, rfl⟩)
        | (obtain ⟨w, h1, h2⟩ := e; subst h2; exact ⟨rfl, w, h1, rfl⟩)
        | (simp_all; done)
        | (simp_all; subst e; simp; done)
        | (simp_all; obtain ⟨e1, e2, e3⟩ := e; subst e3; simp_all; done)
        | (simp only [Option.bind_eq_some_iff, Option.map_eq_some_iff] at e; obtain ⟨w, h1, u, h2, h3⟩ := e; subst h3; simp_all; done)
        | (simp only [Option.bind_eq_some_iff, Option.map_eq_some_iff] at e; obtain ⟨w, h1, u, h2, h3⟩ := e; subst h3; simp_all; omega))
theorem stp_le {q : Fm} (h : lel L L') (e : stp P m ins len aux pc L S k n H = some q) : ∃ M, stp P m ins len aux pc L' S k n H = some (q.1, M, q.2.2) ∧ lel q.2.1 M := by
  cases hl : loc ins with
  | false =>
    obtain ⟨h1, h2⟩ := stp_fr (L' := L') hl e
    exact ⟨L', h2, by rw [h1]; exact h⟩
  | true =>
    cases ins <;> first
      | (cases hl; done)
      | (simp only [stp, Option.map_eq_some_iff] at e ⊢; obtain ⟨w, h1, h2⟩ := e; subst h2; first
          | exact ⟨L', ⟨w, ldI_le h h1, rfl⟩, h⟩
          | exact ⟨L', ⟨w, ldJ_le h h1, rfl⟩, h⟩
          | exact ⟨L', ⟨w, ldR_le h h1, rfl⟩, h⟩)
      | (simp only [stp] at e ⊢; split at e
         · simp only [Option.map_eq_some_iff] at e ⊢
           obtain ⟨w, h1, h2⟩ := e; subst h2
           first
            | (obtain ⟨M, g1, g2⟩ := stl_le h h1; exact ⟨M, ⟨M, g1, rfl⟩, g2⟩)
            | (obtain ⟨M, g1, g2⟩ := stL_le h h1; exact ⟨M, ⟨M, g1, rfl⟩, g2⟩)
         · cases e)
      | (simp only [stp] at e ⊢; rename_i i c; rcases h i with g | ⟨g, -⟩
         · rw [← g]; revert e; generalize L[i]? = x; intro e
           split at e
           · cases e; exact ⟨_, rfl, lel_set h⟩
           · cases e
         · rw [g] at e; cases e)
theorem run_fg : ∀ (f m pc : Nat) (L L' : List Slot) (S : List Value) (k n : Nat) (H : AH) (r : Option Value × AH), lel L L' → run P f m pc L S k n H = some r → run P f m pc L' S k n H = some r
  | 0, _, _, _, _, _, _, _, _, _, _, e => by cases e
  | f + 1, m, pc, L, L', S, k, n, H, r, h, e => by
    unfold run at e ⊢
    cases hd : P.1 m pc with
    | none => rw [hd] at e; cases e
    | some d =>
      rw [hd] at e; simp only at e ⊢
      cases hr : ret P m d.1 S with
      | some v => rw [hr] at e; exact e
      | none =>
        rw [hr] at e; simp only at e ⊢
        cases hc : cal P m d.1 d.2.2 S k n H with
        | some c =>
          rw [hc] at e; simp only at e ⊢
          cases hx : run P f c.1 0 (ent P c.1 c.2.1) [] 0 0 H with
          | none => rw [hx] at e; cases e
          | some y => rw [hx] at e; simp only at e ⊢; exact run_fg f _ _ _ _ _ _ _ _ _ h e
        | none =>
          rw [hc] at e; simp only at e ⊢
          cases hs : stp P m d.1 d.2.1 d.2.2 pc L S k n H with
          | none => rw [hs] at e; cases e
          | some q =>
            rw [hs] at e; simp only at e
            obtain ⟨M, g1, g2⟩ := stp_le h hs
            rw [g1]; exact run_fg f _ _ _ _ _ _ _ _ _ g2 e
theorem W_fg (h : lel L L') (w : W P m pc L S k n H Q) : W P m pc L' S k n H Q := by
  obtain ⟨f, v, H', e, q⟩ := w
  exact ⟨f, v, H', run_fg f m pc L L' S k n H _ h e, q⟩
end Forget
section Ist
variable {P : Prog} {m pc len k n i : Nat} {aux : Int} {L : List Slot} {S : List Value} {H : AH} {Q : Option Value → AH → Prop} {x : Int32} {l : Int64}
theorem W_ist' (hd : P.1 m pc = some (.istore i, len, aux)) (h : L[i]? = some (.val (.long l))) (h2 : L[i + 1]? = some .second) : W P m pc L (.int x :: S) k n H Q ↔ W P m (pc + len) ((L.set (i + 1) .unset).set i (.val (.int x))) S k n H Q := W_s hd rfl rfl (by
  have := (List.getElem?_eq_some_iff.mp h2).1
  simp [stp, stl, h, Value.category, this])
end Ist
section Num2
theorem nn32 {x : Int32} (h : 0 ≤ x.toInt) : x.toInt = (x.toBitVec.toNat : Int) ∧ x.toBitVec.toNat < 2147483648 := by
  have e : x.toInt = x.toBitVec.toInt := rfl
  rw [e, BitVec.toInt_eq_toNat_cond] at h ⊢
  have := x.toBitVec.isLt
  split at h
  · rename_i g; rw [if_pos g]; exact ⟨rfl, by omega⟩
  · omega
theorem of_nn {x : Int32} (h : x.toBitVec.toNat < 2147483648) : x.toInt = (x.toBitVec.toNat : Int) := by
  have e : x.toInt = x.toBitVec.toInt := rfl
  rw [e, BitVec.toInt_eq_toNat_cond, if_pos (by omega)]
theorem and_rg {x m : Int32} (h : 0 ≤ m.toInt) : 0 ≤ (x &&& m).toInt ∧ (x &&& m).toInt ≤ m.toInt := by
  obtain ⟨e, hm⟩ := nn32 h
  have h1 : (x &&& m).toBitVec.toNat ≤ m.toBitVec.toNat := by
    rw [Int32.toBitVec_and, BitVec.toNat_and]; exact Nat.and_le_right
  rw [of_nn (x := x &&& m) (by omega), e]; omega
theorem len32 {n : Nat} (h : n < 2147483648) : (n.toInt32).toInt = n := by
  rw [show n.toInt32 = Int32.ofNat n from rfl, Int32.toInt_ofNat_of_lt (by omega)]
end Num2
end Jvm.JX

namespace Jvm.JX
open Sem ClassFile Op Lib
theorem bitk (k : Int32) (h : 0 ≤ k.toInt ∧ k.toInt < 64) : ((1 : Int64) <<< (k.toInt64 &&& 63)).toBitVec = 1#64 <<< k.toInt.toNat := by
  have key : ∀ j : Fin 64, ((1 : Int64) <<< ((Int32.ofNat j.val).toInt64 &&& 63)).toBitVec = 1#64 <<< j.val := by decide +kernel
  have := key ⟨k.toInt.toNat, by omega⟩
  simp only at this
  rw [← this, show Int32.ofNat k.toInt.toNat = k by rw [eq32, Int32.toInt_ofNat_of_lt (by omega)]; omega]
theorem shl1 {κ i : Nat} (h : κ < 64) : (1#64 <<< κ).getLsbD i = decide (i = κ) := by
  rw [BitVec.getLsbD_shiftLeft, BitVec.getLsbD_one, Bool.eq_iff_iff]; simp; omega
theorem bit_or {P : Int64} (k : Int32) (h : 0 ≤ k.toInt ∧ k.toInt < 64) (i : Nat) : (P ||| ((1 : Int64) <<< (k.toInt64 &&& 63))).toBitVec.getLsbD i = (P.toBitVec.getLsbD i || decide (i = k.toInt.toNat)) := by
  rw [Int64.toBitVec_or, bitk k h, BitVec.getLsbD_or, shl1 (by omega)]
theorem rem_rg {x m : Int32} (hx : 0 ≤ x.toInt) (hm : 0 < m.toInt) : 0 ≤ (x % m).toInt ∧ (x % m).toInt < m.toInt := by
  rw [Int32.toInt_mod]
  exact ⟨Int.tmod_nonneg _ hx, Int.tmod_lt_of_pos _ hm⟩
theorem ushrL_or {P R : Int64} {y : Int32} : Jvm.Free.XT.ushrL (P ||| R) y = Jvm.Free.XT.ushrL P y ||| Jvm.Free.XT.ushrL R y := by
  unfold Jvm.Free.XT.ushrL
  apply Int64.toBitVec_inj.mp
  simp [BitVec.ushiftRight_or_distrib]
theorem ushrL_bv {P : Int64} {k : Int32} (h : 0 ≤ k.toInt ∧ k.toInt < 64) : (Jvm.Free.XT.ushrL P k).toBitVec = P.toBitVec >>> k.toInt.toNat := by
  have key : ∀ j : Fin 64, ((Int32.ofNat j.val).toInt64.toUInt64 &&& Int64.toUInt64 63) = UInt64.ofNat j.val := by decide +kernel
  have hk := key ⟨k.toInt.toNat, by omega⟩
  simp only at hk
  rw [show Int32.ofNat k.toInt.toNat = k by rw [eq32, Int32.toInt_ofNat_of_lt (by omega)]; omega] at hk
  unfold Jvm.Free.XT.ushrL
  rw [hk]
  have h64 : k.toInt.toNat < 64 := by omega
  generalize k.toInt.toNat = κ at *
  show (P.toUInt64 >>> UInt64.ofNat κ).toBitVec = _
  rw [UInt64.toBitVec_shiftRight]
  have e : (UInt64.ofNat κ).toBitVec % 64 = BitVec.ofNat 64 κ := by
    apply BitVec.eq_of_toNat_eq
    simp
    omega
  rw [e]
  apply BitVec.eq_of_toNat_eq
  simp
  rw [Nat.mod_eq_of_lt (by omega)]
theorem and1 {P : Int64} {k : Int32} (h : 0 ≤ k.toInt ∧ k.toInt < 64) : Jvm.Free.XT.ushrL P k &&& 1 = 0 ↔ P.toBitVec.getLsbD k.toInt.toNat = false := by
  rw [← Int64.toBitVec_inj, Int64.toBitVec_and, ushrL_bv h]
  generalize k.toInt.toNat = κ
  constructor
  · intro e
    have := congrArg (fun v => v.getLsbD 0) e
    simpa using this
  · intro e
    apply BitVec.eq_of_getLsbD_eq
    intro i hi
    rw [BitVec.getLsbD_and]
    by_cases g : i = 0
    · subst g; simp [e]
    · have : (1 : Int64).toBitVec.getLsbD i = false := by
        rw [show (1 : Int64).toBitVec = 1#64 from rfl, BitVec.getLsbD_one]; simp [g]
      rw [this]; simp
def G2 (P : Int64) (j : Int32) : Int64 := Jvm.Free.XT.ushrL P (2 * j) &&& 3
theorem G2_or {P R : Int64} {j : Int32} : G2 (P ||| R) j = G2 P j ||| G2 R j := by
  unfold G2; rw [ushrL_or]
  apply Int64.toBitVec_inj.mp
  simp only [Int64.toBitVec_and, Int64.toBitVec_or]
  apply BitVec.eq_of_getLsbD_eq
  intro i _
  simp only [BitVec.getLsbD_and, BitVec.getLsbD_or]
  cases (Jvm.Free.XT.ushrL P (2 * j)).toBitVec.getLsbD i <;> cases (Jvm.Free.XT.ushrL R (2 * j)).toBitVec.getLsbD i <;> simp
theorem G2_c {c i j : Int32} (hc : c = 0 ∨ c = 1 ∨ c = 2 ∨ c = 3) (hi : 0 ≤ i.toInt ∧ i.toInt < 8) (hj : 0 ≤ j.toInt ∧ j.toInt < 8) : G2 (c.toInt64 <<< ((2 * i).toInt64 &&& 63)) j = if i = j then c.toInt64 else 0 := by
  have key : ∀ (a : Fin 8) (b : Fin 8) (c : Fin 4), G2 ((Int32.ofNat c.val).toInt64 <<< ((2 * Int32.ofNat a.val).toInt64 &&& 63)) (Int32.ofNat b.val) = if Int32.ofNat a.val = Int32.ofNat b.val then (Int32.ofNat c.val).toInt64 else 0 := by decide +kernel
  have ei : Int32.ofNat i.toInt.toNat = i := by rw [eq32, Int32.toInt_ofNat_of_lt (by omega)]; omega
  have ej : Int32.ofNat j.toInt.toNat = j := by rw [eq32, Int32.toInt_ofNat_of_lt (by omega)]; omega
  have := fun c => key ⟨i.toInt.toNat, by omega⟩ ⟨j.toInt.toNat, by omega⟩ c
  simp only [ei, ej] at this
  rcases hc with rfl | rfl | rfl | rfl
  · exact this 0
  · exact this 1
  · exact this 2
  · exact this 3
theorem or0 {x : Int64} : x ||| 0 = x ∧ 0 ||| x = x := by
  constructor <;> (apply Int64.toBitVec_inj.mp; simp)
theorem c64 {c : Int32} (hc : c = 0 ∨ c = 1 ∨ c = 2 ∨ c = 3) : c.toInt64.toInt32 = c := by
  rcases hc with rfl | rfl | rfl | rfl <;> decide
end Jvm.JX

namespace Jvm.JX
open Sem ClassFile Op Lib Jvm.Stand Jvm.Free Jvm.LawKit Jvm.RoadKit
def CRel (C : String) (fn : Nat → String × String) (F : List Nat) (Z : State) (n0 : Nat) (h : Heap) (a : Nat) (c : Cel) : Prop :=
  (c.2.2.1 = true → n0 ≤ a) ∧
  match c.1 with
  | .object _ => Exa Z h a C ∧ ∀ k ∈ F, Fld Z h a C (fn k).1 (fn k).2 (c.2.2.2 k)
  | .array t => c.2.1 < 2 ^ 31 ∧ ∃ cl : Cell, Arr Z h a cl t ∧ cl.slots.size = c.2.1 ∧ ∀ i, i < c.2.1 → cl.slots[i]? = some (c.2.2.2 i)
  | _ => True
def RelH (C : String) (fn : Nat → String × String) (F : List Nat) (Z : State) (n0 : Nat) (h : Heap) (H : AH) : Prop := h.size = H.1 ∧ n0 ≤ H.1 ∧ ∀ a, CRel C fn F Z n0 h a (H.2 a)
def ilen2 : Instr → Nat → Nat
  | .tableswitch _ _ _ _, l => l
  | i, _ => ilen i
def RowOk (P : Prog) (tb : List Jvm.Cond) (C : String) (fn : Nat → String × String) (F : List Nat) (nsl : Nat) (nm : Nat → MethodName) (R : List Nat) (m : Nat) (ins : Instr) (aux : Int) : Prop :=
  match ins with
  | .getfield i => aux.toNat ∈ F ∧ Jvm.Cond.fieldLink (nm m).cls i C (fn aux.toNat).1 (fn aux.toNat).2 ∈ tb
  | .putfield i => aux.toNat ∈ F ∧ Jvm.Cond.fieldLink (nm m).cls i C (fn aux.toNat).1 (fn aux.toNat).2 ∈ tb ∧ (Jvm.Cond.lays C C (fn aux.toNat).1 (fn aux.toNat).2 ∈ tb ∨ (nm m).cls = C ∧ (nm m).name = "<init>")
  | .new i => aux.toNat = nsl ∧ Jvm.Cond.classLink (nm m).cls i C ∈ tb
  | .newarray t => Jvm.Cond.arrayClass (newarray.typeOf t) ∈ tb
  | .ldc i => Jvm.Cond.constant (nm m).cls i (Int32.ofInt aux) ∈ tb
  | .ldc2_w i => Jvm.Cond.constantLong (nm m).cls i (Int64.ofInt aux) ∈ tb
  | .invokevirtual i => aux.toNat ∈ R ∧ Jvm.Cond.methodLink (nm m).cls i (nm aux.toNat) ∈ tb
  | .invokestatic i => aux.toNat ∈ R ∧ Jvm.Cond.methodLink (nm m).cls i (nm aux.toNat) ∈ tb
  | .invokespecial i => (aux = -1 → Jvm.Cond.methodLink (nm m).cls i Lib.objectInit ∈ tb ∧ Jvm.Cond.instanceMethod Lib.objectInit ∈ tb ∧ Jvm.Cond.code Lib.objectInit ⟨#[0xb1]⟩ 1 none ∈ tb) ∧ (0 ≤ aux → aux.toNat ∈ R ∧ Jvm.Cond.methodLink (nm m).cls i (nm aux.toNat) ∈ tb)
  | _ => True
def CalOk (P : Prog) (tb : List Jvm.Cond) (C : String) (nm : Nat → MethodName) (bt : Nat → ByteArray) (m : Nat) : Prop :=
  Jvm.Cond.code (nm m) (bt m) (ml P m) (rt P m) ∈ tb ∧ Jvm.Cond.initialized (nm m).cls ∈ tb ∧ (∃ ps r, parseMethodDescriptor (nm m).desc = some ⟨ps, r⟩ ∧ ps.length + (if kd P m = 0 then 0 else 1) = na P m) ∧
  (kd P m = 0 → Jvm.Cond.static (nm m) ∈ tb) ∧
  (kd P m ≠ 0 → (nm m).cls = C ∧ Jvm.Cond.instanceMethod (nm m) ∈ tb) ∧
  (kd P m = 1 → Jvm.Cond.declares (nm m) ∈ tb ∧ Jvm.Cond.selects C (nm m) (nm m) ∈ tb) ∧
  (kd P m = 2 → Jvm.Cond.privateMethod (nm m) ∈ tb) ∧
  (kd P m = 3 → (nm m).name = "<init>" ∧ rt P m = none)
def Good (P : Prog) (tb : List Jvm.Cond) (C : String) (fn : Nat → String × String) (F : List Nat) (nsl : Nat) (nm : Nat → MethodName) (bt : Nat → ByteArray) (R : List Nat) (top : Nat) : Prop :=
  Jvm.Cond.instantiable C nsl ∈ tb ∧ Jvm.Cond.initialized C ∈ tb ∧
  (∀ k ∈ F, parseFieldDescriptor (fn k).2 = some (P.2.2.1 k) ∧ (Jvm.Cond.lays C C (fn k).1 (fn k).2 ∈ tb ∨ Jvm.Cond.laysFinal C C (fn k).1 (fn k).2 ∈ tb)) ∧
  (∀ j ∈ F, ∀ k ∈ F, (fn j).1 = (fn k).1 → j = k) ∧
  (∀ m ∈ R, plainName (nm m).cls = true ∧ ((nm m).cls ≠ "java/lang/invoke/MethodHandle" ∧ (nm m).cls ≠ "java/lang/invoke/VarHandle") ∧
    ∀ pc ins len aux, P.1 m pc = some (ins, len, aux) → decode (bt m) pc = .ok (ins, len) ∧ len = ilen2 ins len ∧ RowOk P tb C fn F nsl nm R m ins aux) ∧
  (∀ m ∈ R, m ≠ top → CalOk P tb C nm bt m) ∧
  (∀ m ∈ R, ∀ pc ins len aux, P.1 m pc = some (ins, len, aux) → aux = (top : Int) → kindOk ins (kd P top) = false)
section Rel
variable {C : String} {fn : Nat → String × String} {F : List Nat} {Z : State} {n0 : Nat} {h h' : Heap} {H : AH}
theorem RelH.obj (r : RelH C fn F Z n0 h H) {a : Nat} (ha : isO H a = true) : Exa Z h a C ∧ ∀ k ∈ F, Fld Z h a C (fn k).1 (fn k).2 (fld H a k) := by
  have q := (r.2.2 a).2
  unfold isO at ha
  cases hk : (H.2 a).1 <;> rw [hk] at ha <;> first | (cases ha; done) | (simp only [hk] at q; exact q)
theorem RelH.own (r : RelH C fn F Z n0 h H) {a : Nat} (ha : (H.2 a).2.2.1 = true) : n0 ≤ a := (r.2.2 a).1 ha
theorem RelH.arr (r : RelH C fn F Z n0 h H) {a : Nat} {t : FieldType} (ha : (H.2 a).1 = .array t) : (H.2 a).2.1 < 2 ^ 31 ∧ ∃ cl : Cell, Arr Z h a cl t ∧ cl.slots.size = (H.2 a).2.1 ∧ ∀ i, i < (H.2 a).2.1 → cl.slots[i]? = some ((H.2 a).2.2.2 i) := by
  have q := (r.2.2 a).2
  simp only [ha] at q; exact q
theorem RelH.ext (r : RelH C fn F Z n0 h H) (E : Ext h h') {c : Cel} (hs : h'.size = h.size + 1) (hc : CRel C fn F Z n0 h' h.size c) : RelH C fn F Z n0 h' (H.1 + 1, fun b => if b = H.1 then c else H.2 b) := by
  refine ⟨by rw [hs, r.1], Nat.le_succ_of_le r.2.1, fun a => ?_⟩
  by_cases e : a = H.1
  · subst e; simp only [if_true]; rw [← r.1]; exact hc
  · simp only [e, if_false]
    obtain ⟨q1, q2⟩ := r.2.2 a
    refine ⟨q1, ?_⟩
    cases hk : (H.2 a).1 <;> simp only [hk] at q2 ⊢
    · exact ⟨q2.1.ext E, fun k hk => (q2.2 k hk).ext E⟩
    · obtain ⟨q3, cl, q4, q5⟩ := q2; exact ⟨q3, cl, q4.ext E, q5⟩
end Rel
def Go (C : String) (fn : Nat → String × String) (F : List Nat) (Z : State) (n0 : Nat) (p : Program) (l : Launch) (e : Env) (R : Jvm.Room) (s : State) (mid : MethodId) (args : Array Value) (below : List Frame) (meth : Method) (c : Code) (start : State) (nl : Nat) (q : Fm) : Prop :=
  ∃ T' locs', Stand p l e R s mid args below meth c T' locs' q.2.2.2.1 q.2.2.2.2.1 ∧ RelH C fn F Z n0 T'.heap q.2.2.2.2.2 ∧ Fr n0 locs' ∧ q.2.2.2.1 ≤ R.cells ∧ q.2.2.2.2.1 ≤ R.slots ∧ q.2.1.length = nl ∧
    ∀ target, Steps p.tables e below (T'.setTop (mkF mid q.1 q.2.1.toArray q.2.2.1)) target → Steps p.tables e below start target
theorem lrem_mod (x y : Int64) : x - (x / y) * y = x % y := by
  apply Int64.toInt_inj.mp
  have h1 := Int64.le_toInt (x % y)
  have h2 := Int64.toInt_lt (x % y)
  rw [Int64.toInt_sub, Int64.toInt_mul, Int64.toInt_div, Int.bmod_mul_bmod, Int.sub_bmod_bmod, Int.mul_comm (x.toInt.tdiv y.toInt), ← Int.tmod_def, ← Int64.toInt_mod]
  exact Int.bmod_eq_of_le_mul_two (by omega) (by omega)
theorem arr_get {L : List Slot} {i : Nat} {o : Slot} (h : L[i]? = some o) : L.toArray[i]? = some o := by simpa using h
theorem stl_ok {L L' : List Slot} {i : Nat} {v : Value} (hv : v.category = 1) (h : stl L i v = some L') : storeLocals L.toArray i v = some L'.toArray ∧ L'.length = L.length := by
  unfold stl at h
  unfold storeLocals
  cases hi : L[i]? with
  | none => rw [hi] at h; cases h
  | some o =>
    have hlt : i < L.length := (List.getElem?_eq_some_iff.mp hi).1
    rw [hi] at h
    rw [arr_get hi]
    cases o with
    | unset => cases h; simp [storeSelf, setAt, hlt, hv]
    | second =>
      simp only at h
      split at h
      · cases h; simp [storeSelf, setAt, hv, hlt, Nat.lt_of_le_of_lt (Nat.sub_le i 1) hlt]
      · cases h
    | val w =>
      simp only at h
      split at h
      · rename_i hw; cases h; simp [storeSelf, setAt, hv, hlt, hw]
      · rename_i hw
        split at h
        · rename_i h1
          have hw2 : w.category = 2 := by cases w <;> simp [Value.category] at hw ⊢
          cases h; simp [storeSelf, setAt, hv, hlt, hw2, h1]
        · cases h
theorem stL_ok {L L' : List Slot} {i : Nat} {v : Value} (hv : v.category = 2) (h : stL L i v = some L') : storeLocals L.toArray i v = some L'.toArray ∧ L'.length = L.length := by
  unfold stL at h
  unfold storeLocals
  cases hi : L[i]? with
  | none => rw [hi] at h; cases h
  | some o =>
    cases hi2 : L[i + 1]? with
    | none => rw [hi, hi2] at h; cases o <;> cases h
    | some o2 =>
      have hlt : i < L.length := (List.getElem?_eq_some_iff.mp hi).1
      have hlt2 : i + 1 < L.length := (List.getElem?_eq_some_iff.mp hi2).1
      rw [hi, hi2] at h
      rw [arr_get hi]
      have g2 : (L.set i (.val v))[i + 1]? = some o2 := by rw [List.getElem?_set_ne (by omega)]; exact hi2
      have g4 : L[i + 1] = o2 := (List.getElem?_eq_some_iff.mp hi2).2
      cases o with
      | second => cases h
      | unset =>
        simp only at h
        split at h
        · rename_i hc
          cases h
          cases o2 with
          | second => cases hc
          | unset => simp [storeSelf, setAt, hv, hlt, hlt2, g2, g4]
          | val w => simp only [cat1, beq_iff_eq] at hc; simp [storeSelf, setAt, hv, hlt, hlt2, g2, g4, hc]
        · cases h
      | val w =>
        simp only at h
        split at h
        · rename_i hw
          cases h
          have g3 : ((L.set (i + 1) .unset).set i (.val v))[i + 1]? = some .unset := by rw [List.getElem?_set_ne (by omega)]; simp [hlt2]
          simp [storeSelf, setAt, hv, hlt, hlt2, hw, g3]
          rw [List.set_comm _ _ (by omega), List.set_set, List.set_comm _ _ (by omega)]
        · rename_i hw
          have hw1 : ¬ w.category = 2 := hw
          split at h
          · rename_i hc
            cases h
            cases o2 with
            | second => cases hc
            | unset => simp [storeSelf, setAt, hv, hlt, hlt2, g2, g4, hw1]
            | val w => simp only [cat1, beq_iff_eq] at hc; simp [storeSelf, setAt, hv, hlt, hlt2, g2, g4, hw1, hc]
          · cases h
theorem jmp_ok {pc q : Nat} {o : Int} (h : jmp pc o = some q) : 0 ≤ (pc : Int) + o ∧ ((pc : Int) + o).toNat = q := by
  unfold jmp at h
  split at h
  · rename_i g; cases h; exact ⟨g, rfl⟩
  · cases h
theorem ldI_ok {L : List Slot} {i : Nat} {v : Value} (h : ldI L i = some v) : ∃ x, v = .int x ∧ L.toArray[i]? = some (.val (.int x)) := by
  unfold ldI at h
  split at h
  · rename_i x e; cases h; exact ⟨x, rfl, arr_get e⟩
  · cases h
theorem ldJ_ok {L : List Slot} {i : Nat} {v : Value} (h : ldJ L i = some v) : ∃ x, v = .long x ∧ L.toArray[i]? = some (.val (.long x)) := by
  unfold ldJ at h
  split at h
  · rename_i x e; cases h; exact ⟨x, rfl, arr_get e⟩
  · cases h
theorem ldR_ok {L : List Slot} {i : Nat} {v : Value} (h : ldR L i = some v) : ∃ x, v = .ref x ∧ L.toArray[i]? = some (.val (.ref x)) := by
  unfold ldR at h
  split at h
  · rename_i x e; cases h; exact ⟨x, rfl, arr_get e⟩
  · cases h
theorem okv_ok {t : FieldType} {v : Value} (h : okv t v = true) : narrow t v = v ∧ fits t v = true := by
  unfold okv at h
  split at h
  · exact ⟨rfl, rfl⟩
  · rename_i z
    simp only [Bool.or_eq_true, beq_iff_eq] at h
    rcases h with rfl | rfl <;> exact ⟨rfl, rfl⟩
  · rename_i z
    simp only [beq_iff_eq] at h
    have q := fits_nar_byte z
    rw [h] at q
    exact ⟨by show Value.int _ = _; rw [h], q⟩
  · exact ⟨rfl, rfl⟩
  · exact ⟨rfl, rfl⟩
  · cases h
end Jvm.JX

namespace Jvm.JX
open Sem ClassFile Op Lib Jvm.Stand Jvm.Free Jvm.LawKit Jvm.RoadKit
section Step
variable {P : Prog} {tb : List Jvm.Cond} {C : String} {fn : Nat → String × String} {F : List Nat} {nsl : Nat} {nm : Nat → MethodName} {bt : Nat → ByteArray} {R : List Nat} {top : Nat}
variable {l : Launch} {Z : State} {a0 : Array Value} {n0 : Nat} {m pc len k n : Nat} {aux : Int} {L : List Slot} {S : List Value} {H : AH} {ins : Instr} {q : Fm}
variable {p : Program} {e : Env} {s : State} {mid : MethodId} {args : Array Value} {below : List Frame} {meth : Method} {c : Code} {T : State} {locs : List Loc} {Rm : Jvm.Room}
theorem go_same {start : State} {nl pc' : Nat} {L' : List Slot} {S' : List Value} (X : Stand p l e Rm s mid args below meth c T locs k n) (r : RelH C fn F Z n0 T.heap H) (N : Fr n0 locs) (hk : k ≤ Rm.cells) (hn : n ≤ Rm.slots) (hL : L'.length = nl)
    (st : ∀ target, Steps p.tables e below (T.setTop (mkF mid pc' L'.toArray S')) target → Steps p.tables e below start target) : Go C fn F Z n0 p l e Rm s mid args below meth c start nl (pc', L', S', k, n, H) := ⟨T, locs, X, r, N, hk, hn, hL, st⟩
theorem go_heap {start : State} {nl pc' : Nat} {L' : List Slot} {S' : List Value} {T' : State} (X : Stand p l e Rm s mid args below meth c T' locs k n) (r : RelH C fn F Z n0 T.heap H) (hh : T'.heap = T.heap) (N : Fr n0 locs) (hk : k ≤ Rm.cells) (hn : n ≤ Rm.slots) (hL : L'.length = nl)
    (st : ∀ target, Steps p.tables e below (T'.setTop (mkF mid pc' L'.toArray S')) target → Steps p.tables e below start target) : Go C fn F Z n0 p l e Rm s mid args below meth c start nl (pc', L', S', k, n, H) := ⟨T', locs, X, by rw [hh]; exact r, N, hk, hn, hL, st⟩
theorem idx_not {i : Int32} {n : Nat} (h1 : ¬ i < 0) (h2 : i.toNatClampNeg < n) : ¬ (i < 0 ∨ n ≤ i.toNatClampNeg) := fun h => h.elim h1 (Nat.not_le.mpr h2)
theorem inA_ok {a : Nat} {t : FieldType} {i : Int32} (h : inA H a t i = true) : (H.2 a).1 = .array t ∧ ¬ i < 0 ∧ i.toNatClampNeg < (H.2 a).2.1 := by
  simpa [inA, and_assoc] using h
theorem inAw_ok {a : Nat} {t : FieldType} {i : Int32} (h : inAw H a t i = true) : inA H a t i = true ∧ (H.2 a).2.2.1 = true := by
  simpa [inAw] using h
theorem isOw_ok {a : Nat} (h : isOw H a = true) : isO H a = true ∧ (H.2 a).2.2.1 = true := by simpa [isOw] using h
theorem RelH.wrF {h h' : Heap} {a j : Nat} {v : Value} (hG : Good P tb C fn F nsl nm bt R top) (hw : ∀ d ∈ tb, d.before a0 Z = true) (r : RelH C fn F Z n0 h H) (ha : isO H a = true) (hj : j ∈ F) (Wt : Wr h h' a (Jvm.RoadKit.slotOf Z C (fn j).1 (fn j).2) v) : RelH C fn F Z n0 h' (wr H a j v) := by
  refine ⟨by rw [Wt.size]; exact r.1, r.2.1, fun b => ?_⟩
  by_cases e : b = a
  · subst e
    obtain ⟨q1, q2⟩ := r.2.2 b
    obtain ⟨E, Fs⟩ := r.obj ha
    simp only [wr, if_true]
    refine ⟨q1, ?_⟩
    unfold isO at ha
    cases hk : (H.2 b).1 <;> rw [hk] at ha <;> try (cases ha; done)
    simp only
    refine ⟨E.wr Wt, fun i hi => ?_⟩
    by_cases e2 : i = j
    · subst e2; simp only [if_true]; exact (Fs i hi).same Wt
    · simp only [e2, if_false]
      refine (Fs i hi).other Wt (Or.inr ?_)
      have lw : ∀ k ∈ F, Laid Z a0 C C (fn k).1 (fn k).2 := fun k hk => ((hG.2.2.1 k hk).2).imp (hw _) (hw _)
      exact slot_ne (lw i hi) (lw j hj) (fun q => e2 (hG.2.2.2.1 i hi j hj q)) (hG.2.2.1 i hi).1 (hG.2.2.1 j hj).1
  · simp only [wr, e, if_false]
    obtain ⟨q1, q2⟩ := r.2.2 b
    refine ⟨q1, ?_⟩
    cases hk : (H.2 b).1 <;> simp only [hk] at q2 ⊢
    · exact ⟨q2.1.wr Wt, fun k hk => (q2.2 k hk).other Wt (Or.inl e)⟩
    · obtain ⟨q3, cl, q4, q5⟩ := q2; exact ⟨q3, cl, q4.other Wt e, q5⟩
theorem RelH.wrA {h h' : Heap} {a j : Nat} {t : FieldType} {v : Value} (r : RelH C fn F Z n0 h H) (ha : (H.2 a).1 = .array t) (hj : j < (H.2 a).2.1) (Wt : Wr h h' a j v) : RelH C fn F Z n0 h' (wr H a j v) := by
  refine ⟨by rw [Wt.size]; exact r.1, r.2.1, fun b => ?_⟩
  by_cases e : b = a
  · subst e
    obtain ⟨q1, q2⟩ := r.2.2 b
    obtain ⟨g1, cl, g2, g3, g4⟩ := r.arr ha
    simp only [wr, if_true]
    refine ⟨q1, ?_⟩
    simp only [ha]
    refine ⟨g1, cl.setSlot j v, g2.same Wt, by rw [sz_set]; exact g3, fun i hi => ?_⟩
    by_cases e2 : i = j
    · subst e2; simp [Cell.setSlot, g3, hj]
    · simp only [e2, if_false]; rw [← g4 i hi]; exact Array.getElem?_setIfInBounds_ne (Ne.symm e2)
  · simp only [wr, e, if_false]
    obtain ⟨q1, q2⟩ := r.2.2 b
    refine ⟨q1, ?_⟩
    cases hk : (H.2 b).1 <;> simp only [hk] at q2 ⊢
    · exact ⟨q2.1.wr Wt, fun k hk => (q2.2 k hk).other Wt (Or.inl e)⟩
    · obtain ⟨q3, cl, q4, q5⟩ := q2; exact ⟨q3, cl, q4.other Wt e, q5⟩
theorem ext_push (h : Heap) (x : Cell) : Ext h (h.push x) := ⟨by simp, fun a c q => by rw [Array.getElem?_push_lt (Array.getElem?_eq_some_iff.mp q).1]; exact (Array.getElem?_eq_getElem _).symm.trans q⟩
theorem made_obj {h : Heap} {cC : ClassId} {kC : Class} (hZ : Z.Warmed39 s.vm) (h1 : s.vm.findClass C = some cC) (h2 : s.vm.classes[cC]? = some kC) :
    Exa Z (h.push { cls := cC, slots := kC.instanceTypes.map defaultValue, vm := .none }) h.size C ∧ ∀ {nm d : String} {ty : FieldType}, Laid Z a0 C C nm d → parseFieldDescriptor d = some ty → Fld Z (h.push { cls := cC, slots := kC.instanceTypes.map defaultValue, vm := .none }) h.size C nm d (defaultValue ty) := by
  rw [hZ.alike.findClass] at h1
  obtain ⟨kZ, z1, -⟩ := Vm.findClass_spec h1
  obtain ⟨k', z2, z3⟩ := hZ.alike.2.2 _ _ z1
  cases h2.symm.trans z2
  have ei : kC.instanceTypes = kZ.instanceTypes := by rw [z3]
  have hN : ∀ x : Cell, (h.push x)[h.size]? = some x := fun x => by simp
  refine ⟨⟨_, kZ, hN _, h1, z1, rfl, fun _ => by simp [ei]⟩, fun {nm d ty} lw ht => ?_⟩
  obtain ⟨c1, k1, cf, kf, i, f, a1, a2, a3, a4, a5, a6, -⟩ := lw.spec
  cases h1.symm.trans a1
  cases z1.symm.trans a2
  exact ⟨_, cf, kf, i, f, hN _, a3, a4, by simp, rfl, a5, by simp [ei, a6, (State.fieldFound?_type a3 ht).2]⟩
theorem made_arr {h : Heap} {t : FieldType} {cA comp : ClassId} {kA : Class} {xs : Array Value} (hZ : Z.Warmed39 s.vm) (h1 : s.vm.findClass ("[" ++ t.toString) = some cA) (h2 : s.vm.classes[cA]? = some kA) (h3 : kA.kind = .array comp t) : Arr Z (h.push { cls := cA, slots := xs, vm := .none }) h.size { cls := cA, slots := xs, vm := .none } t := by
  rw [hZ.alike.findClass] at h1
  obtain ⟨kZ, z1, -⟩ := Vm.findClass_spec h1
  obtain ⟨k', z2, z3⟩ := hZ.alike.2.2 _ _ z1
  cases h2.symm.trans z2
  exact ⟨by simp, ⟨by simp, kZ, z1, comp, by rw [← h3, z3]⟩, by simp⟩
set_option maxHeartbeats 4000000 in
theorem stp_go (hG : Good P tb C fn F nsl nm bt R top) (hw : ∀ d ∈ tb, d.before a0 Z = true) (hm : m ∈ R) (hrow : P.1 m pc = some (ins, len, aux)) (h : stp P m ins len aux pc L S k n H = some q) (X : Stand p l e (rm P m) s mid args below meth c T locs k n) (hx : p.tables.exec = Jvm.exec) (hZ : Z.Warmed39 s.vm)
    (hby : c.code = bt m) (hml : c.maxLocals = ml P m) (hown : s.vm.findClass (nm m).cls = some mid.cls) (hnm : meth.name = (nm m).name) (hL : L.length = ml P m) (r : RelH C fn F Z n0 T.heap H) (N : Fr n0 locs) (hk : k ≤ (rm P m).cells) (hn : n ≤ (rm P m).slots) :
    Go C fn F Z n0 p l e (rm P m) s mid args below meth c (T.setTop (mkF mid pc L.toArray S)) (ml P m) q := by
  obtain ⟨hd, hl, ho⟩ := (hG.2.2.2.2.1 m hm).2.2 pc ins len aux hrow
  replace hd := hb hby hd
  cases ins with
  | iconst i =>
    have hl : len = 1 := hl; subst hl
    obtain rfl := Option.some.inj h
    exact go_same X r N hk hn hL fun t g => XS.iconst X.here hx rfl hd g
  | bipush i =>
    have hl : len = 2 := hl; subst hl
    obtain rfl := Option.some.inj h
    exact go_same X r N hk hn hL fun t g => XS.bipush X.here hx rfl hd g
  | sipush i =>
    have hl : len = 3 := hl; subst hl
    obtain rfl := Option.some.inj h
    exact go_same X r N hk hn hL fun t g => XS.sipush X.here hx rfl hd g
  | lconst i =>
    have hl : len = 1 := hl; subst hl
    obtain rfl := Option.some.inj h
    exact go_same X r N hk hn hL fun t g => XT.lconst X.here hx rfl hd g
  | ldc i =>
    have hl : len = 2 := hl; subst hl
    obtain rfl := Option.some.inj h
    exact go_same X r N hk hn hL fun t g => X.ldcI hx hown (mv hZ (hw _ ho)) rfl hd g
  | ldc2_w i =>
    have hl : len = 3 := hl; subst hl
    obtain rfl := Option.some.inj h
    exact go_same X r N hk hn hL fun t g => X.ldc2J hx hown (mv hZ (hw _ ho)) rfl hd g
  | iload i =>
    have hl : len = 2 := hl; subst hl
    obtain ⟨v, hv, rfl⟩ := Option.map_eq_some_iff.mp h
    obtain ⟨x, rfl, hg⟩ := ldI_ok hv
    exact go_same X r N hk hn hL fun t g => XS.iload X.here hx rfl hd hg g
  | iload_n i =>
    have hl : len = 1 := hl; subst hl
    obtain ⟨v, hv, rfl⟩ := Option.map_eq_some_iff.mp h
    obtain ⟨x, rfl, hg⟩ := ldI_ok hv
    exact go_same X r N hk hn hL fun t g => XS.iloadN X.here hx rfl hd hg g
  | lload i =>
    have hl : len = 2 := hl; subst hl
    obtain ⟨v, hv, rfl⟩ := Option.map_eq_some_iff.mp h
    obtain ⟨x, rfl, hg⟩ := ldJ_ok hv
    exact go_same X r N hk hn hL fun t g => XT.lload X.here hx rfl hd hg g
  | lload_n i =>
    have hl : len = 1 := hl; subst hl
    obtain ⟨v, hv, rfl⟩ := Option.map_eq_some_iff.mp h
    obtain ⟨x, rfl, hg⟩ := ldJ_ok hv
    exact go_same X r N hk hn hL fun t g => XT.lloadN X.here hx rfl hd hg g
  | aload i =>
    have hl : len = 2 := hl; subst hl
    obtain ⟨v, hv, rfl⟩ := Option.map_eq_some_iff.mp h
    obtain ⟨x, rfl, hg⟩ := ldR_ok hv
    exact go_same X r N hk hn hL fun t g => XS.aload X.here hx rfl hd hg rfl g
  | aload_n i =>
    have hl : len = 1 := hl; subst hl
    obtain ⟨v, hv, rfl⟩ := Option.map_eq_some_iff.mp h
    obtain ⟨x, rfl, hg⟩ := ldR_ok hv
    exact go_same X r N hk hn hL fun t g => XS.aloadN X.here hx rfl hd hg rfl g
  | istore i =>
    have hl : len = 2 := hl; subst hl
    dsimp only [stp] at h
    split at h
    · rename_i x S'
      obtain ⟨L', hv, rfl⟩ := Option.map_eq_some_iff.mp h
      obtain ⟨g1, g2⟩ := stl_ok rfl hv
      exact go_same X r N hk hn (g2.trans hL) fun t g => XS.istore X.here hx rfl hd rfl g1 g
    · cases h
  | istore_n i =>
    have hl : len = 1 := hl; subst hl
    dsimp only [stp] at h
    split at h
    · rename_i x S'
      obtain ⟨L', hv, rfl⟩ := Option.map_eq_some_iff.mp h
      obtain ⟨g1, g2⟩ := stl_ok rfl hv
      exact go_same X r N hk hn (g2.trans hL) fun t g => XS.istoreN X.here hx rfl hd rfl g1 g
    · cases h
  | astore i =>
    have hl : len = 2 := hl; subst hl
    dsimp only [stp] at h
    split at h
    · rename_i x S'
      obtain ⟨L', hv, rfl⟩ := Option.map_eq_some_iff.mp h
      obtain ⟨g1, g2⟩ := stl_ok rfl hv
      exact go_same X r N hk hn (g2.trans hL) fun t g => XS.astore X.here hx rfl hd rfl rfl g1 g
    · cases h
  | astore_n i =>
    have hl : len = 1 := hl; subst hl
    dsimp only [stp] at h
    split at h
    · rename_i x S'
      obtain ⟨L', hv, rfl⟩ := Option.map_eq_some_iff.mp h
      obtain ⟨g1, g2⟩ := stl_ok rfl hv
      exact go_same X r N hk hn (g2.trans hL) fun t g => XS.astoreN X.here hx rfl hd rfl rfl g1 g
    · cases h
  | lstore i =>
    have hl : len = 2 := hl; subst hl
    dsimp only [stp] at h
    split at h
    · rename_i x S'
      obtain ⟨L', hv, rfl⟩ := Option.map_eq_some_iff.mp h
      obtain ⟨g1, g2⟩ := stL_ok rfl hv
      exact go_same X r N hk hn (g2.trans hL) fun t g => XT.lstore X.here hx rfl hd rfl g1 g
    · cases h
  | lstore_n i =>
    have hl : len = 1 := hl; subst hl
    dsimp only [stp] at h
    split at h
    · rename_i x S'
      obtain ⟨L', hv, rfl⟩ := Option.map_eq_some_iff.mp h
      obtain ⟨g1, g2⟩ := stL_ok rfl hv
      exact go_same X r N hk hn (g2.trans hL) fun t g => XT.lstoreN X.here hx rfl hd rfl g1 g
    · cases h
  | iinc i cst =>
    have hl : len = 3 := hl; subst hl
    dsimp only [stp] at h
    split at h
    · rename_i x hx1
      obtain rfl := Option.some.inj h
      have g1 : storeLocals L.toArray i (.int (x + Int32.ofInt cst)) = some (L.set i (.val (.int (x + Int32.ofInt cst)))).toArray := (stl_ok rfl (stl_plain hx1 rfl)).1
      exact go_same X r N hk hn (by simpa using hL) fun t g => XS.iinc X.here hx rfl hd (arr_get hx1) g1 g
    · cases h
  | iadd =>
    have hl : len = 1 := hl; subst hl
    dsimp only [stp] at h
    split at h
    · rename_i y x S'
      obtain rfl := Option.some.inj h
      exact go_same X r N hk hn hL fun t g => XS.iadd X.here hx rfl hd rfl g
    · cases h
  | isub =>
    have hl : len = 1 := hl; subst hl
    dsimp only [stp] at h
    split at h
    · rename_i y x S'
      obtain rfl := Option.some.inj h
      exact go_same X r N hk hn hL fun t g => XS.isub X.here hx rfl hd rfl g
    · cases h
  | imul =>
    have hl : len = 1 := hl; subst hl
    dsimp only [stp] at h
    split at h
    · rename_i y x S'
      obtain rfl := Option.some.inj h
      exact go_same X r N hk hn hL fun t g => XS.imul X.here hx rfl hd rfl g
    · cases h
  | iand =>
    have hl : len = 1 := hl; subst hl
    dsimp only [stp] at h
    split at h
    · rename_i y x S'
      obtain rfl := Option.some.inj h
      exact go_same X r N hk hn hL fun t g => XS.iand X.here hx rfl hd rfl g
    · cases h
  | ior =>
    have hl : len = 1 := hl; subst hl
    dsimp only [stp] at h
    split at h
    · rename_i y x S'
      obtain rfl := Option.some.inj h
      exact go_same X r N hk hn hL fun t g => XT.ior X.here hx rfl hd rfl g
    · cases h
  | ixor =>
    have hl : len = 1 := hl; subst hl
    dsimp only [stp] at h
    split at h
    · rename_i y x S'
      obtain rfl := Option.some.inj h
      exact go_same X r N hk hn hL fun t g => XT.ixor X.here hx rfl hd rfl g
    · cases h
  | ishl =>
    have hl : len = 1 := hl; subst hl
    dsimp only [stp] at h
    split at h
    · rename_i y x S'
      obtain rfl := Option.some.inj h
      exact go_same X r N hk hn hL fun t g => XT.ishl X.here hx rfl hd rfl g
    · cases h
  | ishr =>
    have hl : len = 1 := hl; subst hl
    dsimp only [stp] at h
    split at h
    · rename_i y x S'
      obtain rfl := Option.some.inj h
      exact go_same X r N hk hn hL fun t g => XT.ishr X.here hx rfl hd rfl g
    · cases h
  | iushr =>
    have hl : len = 1 := hl; subst hl
    dsimp only [stp] at h
    split at h
    · rename_i y x S'
      obtain rfl := Option.some.inj h
      exact go_same X r N hk hn hL fun t g => XT.iushr X.here hx rfl hd rfl g
    · cases h
  | ladd =>
    have hl : len = 1 := hl; subst hl
    dsimp only [stp] at h
    split at h
    · rename_i y x S'
      obtain rfl := Option.some.inj h
      exact go_same X r N hk hn hL fun t g => XT.ladd X.here hx rfl hd rfl g
    · cases h
  | lsub =>
    have hl : len = 1 := hl; subst hl
    dsimp only [stp] at h
    split at h
    · rename_i y x S'
      obtain rfl := Option.some.inj h
      exact go_same X r N hk hn hL fun t g => XT.lsub X.here hx rfl hd rfl g
    · cases h
  | lmul =>
    have hl : len = 1 := hl; subst hl
    dsimp only [stp] at h
    split at h
    · rename_i y x S'
      obtain rfl := Option.some.inj h
      exact go_same X r N hk hn hL fun t g => XT.lmul X.here hx rfl hd rfl g
    · cases h
  | land =>
    have hl : len = 1 := hl; subst hl
    dsimp only [stp] at h
    split at h
    · rename_i y x S'
      obtain rfl := Option.some.inj h
      exact go_same X r N hk hn hL fun t g => XT.land X.here hx rfl hd rfl g
    · cases h
  | lor =>
    have hl : len = 1 := hl; subst hl
    dsimp only [stp] at h
    split at h
    · rename_i y x S'
      obtain rfl := Option.some.inj h
      exact go_same X r N hk hn hL fun t g => XT.lor X.here hx rfl hd rfl g
    · cases h
  | lxor =>
    have hl : len = 1 := hl; subst hl
    dsimp only [stp] at h
    split at h
    · rename_i y x S'
      obtain rfl := Option.some.inj h
      exact go_same X r N hk hn hL fun t g => XT.lxor X.here hx rfl hd rfl g
    · cases h
  | lshl =>
    have hl : len = 1 := hl; subst hl
    dsimp only [stp] at h
    split at h
    · rename_i y x S'
      obtain rfl := Option.some.inj h
      exact go_same X r N hk hn hL fun t g => XT.lshl X.here hx rfl hd rfl g
    · cases h
  | lshr =>
    have hl : len = 1 := hl; subst hl
    dsimp only [stp] at h
    split at h
    · rename_i y x S'
      obtain rfl := Option.some.inj h
      exact go_same X r N hk hn hL fun t g => XT.lshr X.here hx rfl hd rfl g
    · cases h
  | lushr =>
    have hl : len = 1 := hl; subst hl
    dsimp only [stp] at h
    split at h
    · rename_i y x S'
      obtain rfl := Option.some.inj h
      exact go_same X r N hk hn hL fun t g => XT.lushr X.here hx rfl hd rfl g
    · cases h
  | idiv =>
    have hl : len = 1 := hl; subst hl
    dsimp only [stp] at h
    split at h
    · rename_i y x S'
      split at h
      · cases h
      · rename_i g0
        obtain rfl := Option.some.inj h
        exact go_same X r N hk hn hL fun t g => XS.idiv X.here hx rfl hd rfl g0 g
    · cases h
  | irem =>
    have hl : len = 1 := hl; subst hl
    dsimp only [stp] at h
    split at h
    · rename_i y x S'
      split at h
      · cases h
      · rename_i g0
        obtain rfl := Option.some.inj h
        exact go_same X r N hk hn hL fun t g => iremM X hx rfl hd rfl g0 g
    · cases h
  | ldiv =>
    have hl : len = 1 := hl; subst hl
    dsimp only [stp] at h
    split at h
    · rename_i y x S'
      split at h
      · cases h
      · rename_i g0
        obtain rfl := Option.some.inj h
        exact go_same X r N hk hn hL fun t g => XT.ldiv X.here hx rfl hd rfl g0 g
    · cases h
  | lrem =>
    have hl : len = 1 := hl; subst hl
    dsimp only [stp] at h
    split at h
    · rename_i y x S'
      split at h
      · cases h
      · rename_i g0
        obtain rfl := Option.some.inj h
        exact go_same X r N hk hn hL fun t g => XT.lrem X.here hx rfl hd rfl g0 (by rw [lrem_mod]; exact g)
    · cases h
  | ineg =>
    have hl : len = 1 := hl; subst hl
    dsimp only [stp] at h
    split at h
    · rename_i x S'
      obtain rfl := Option.some.inj h
      exact go_same X r N hk hn hL fun t g => XS.ineg X.here hx rfl hd rfl g
    · cases h
  | lneg =>
    have hl : len = 1 := hl; subst hl
    dsimp only [stp] at h
    split at h
    · rename_i x S'
      obtain rfl := Option.some.inj h
      exact go_same X r N hk hn hL fun t g => XT.lneg X.here hx rfl hd rfl g
    · cases h
  | i2l =>
    have hl : len = 1 := hl; subst hl
    dsimp only [stp] at h
    split at h
    · rename_i x S'
      obtain rfl := Option.some.inj h
      exact go_same X r N hk hn hL fun t g => XT.i2l X.here hx rfl hd rfl g
    · cases h
  | l2i =>
    have hl : len = 1 := hl; subst hl
    dsimp only [stp] at h
    split at h
    · rename_i x S'
      obtain rfl := Option.some.inj h
      exact go_same X r N hk hn hL fun t g => XT.l2i X.here hx rfl hd rfl g
    · cases h
  | i2b =>
    have hl : len = 1 := hl; subst hl
    dsimp only [stp] at h
    split at h
    · rename_i x S'
      obtain rfl := Option.some.inj h
      exact go_same X r N hk hn hL fun t g => XT.i2b X.here hx rfl hd rfl g
    · cases h
  | lcmp =>
    have hl : len = 1 := hl; subst hl
    dsimp only [stp] at h
    split at h
    · rename_i y x S'
      obtain rfl := Option.some.inj h
      exact go_same X r N hk hn hL fun t g => XT.lcmp X.here hx rfl hd rfl g
    · cases h
  | dup =>
    have hl : len = 1 := hl; subst hl
    dsimp only [stp] at h
    split at h
    · rename_i v S'
      split at h
      · rename_i g0
        obtain rfl := Option.some.inj h
        exact go_same X r N hk hn hL fun t g => XS.dup X.here hx rfl hd rfl g0 g
      · cases h
    · cases h
  | pop =>
    have hl : len = 1 := hl; subst hl
    dsimp only [stp] at h
    split at h
    · rename_i v S'
      split at h
      · rename_i g0
        obtain rfl := Option.some.inj h
        exact go_same X r N hk hn hL fun t g => XT.pop X.here hx rfl hd rfl g0 g
      · cases h
    · cases h
  | dup2 =>
    have hl : len = 1 := hl; subst hl
    dsimp only [stp] at h
    split at h
    · rename_i x S'
      obtain rfl := Option.some.inj h
      exact go_same X r N hk hn hL fun t g => XT.dup2L X.here hx rfl hd rfl g
    · rename_i v w S' _
      split at h
      · rename_i g0
        obtain rfl := Option.some.inj h
        exact go_same X r N hk hn hL fun t g => XT.dup2 X.here hx rfl hd rfl g0.1 g0.2 g
      · cases h
    · cases h
  | goto o =>
    have hl : len = 3 := hl; subst hl
    obtain ⟨v, hv, rfl⟩ := Option.map_eq_some_iff.mp h
    obtain ⟨g1, g2⟩ := jmp_ok hv
    exact go_same X r N hk hn hL fun t g => XS.goto X.here hx rfl rfl hd g1 g2 g
  | ifCond cd o =>
    have hl : len = 3 := hl; subst hl
    dsimp only [stp] at h
    split at h
    · rename_i x S'
      split at h
      · rename_i g0
        obtain ⟨v, hv, rfl⟩ := Option.map_eq_some_iff.mp h
        obtain ⟨g1, g2⟩ := jmp_ok hv
        exact go_same X r N hk hn hL fun t g => XS.ifYes X.here hx rfl rfl hd rfl g0 g1 g2 g
      · rename_i g0
        obtain rfl := Option.some.inj h
        exact go_same X r N hk hn hL fun t g => XS.ifNo X.here hx rfl hd rfl (by simpa using g0) g
    · cases h
  | if_icmp cd o =>
    have hl : len = 3 := hl; subst hl
    dsimp only [stp] at h
    split at h
    · rename_i y x S'
      split at h
      · rename_i g0
        obtain ⟨v, hv, rfl⟩ := Option.map_eq_some_iff.mp h
        obtain ⟨g1, g2⟩ := jmp_ok hv
        exact go_same X r N hk hn hL fun t g => XS.icmpYes X.here hx rfl rfl hd rfl g0 g1 g2 g
      · rename_i g0
        obtain rfl := Option.some.inj h
        exact go_same X r N hk hn hL fun t g => XS.icmpNo X.here hx rfl hd rfl (by simpa using g0) g
    · cases h
  | tableswitch d lo hi os =>
    dsimp only [stp] at h
    split at h
    · rename_i x S'
      split at h
      · rename_i g0
        obtain ⟨v, hv, rfl⟩ := Option.map_eq_some_iff.mp h
        obtain ⟨g1, g2⟩ := jmp_ok hv
        exact go_same X r N hk hn hL fun t g => XS.tswOut X.here hx rfl rfl hd rfl g0 g1 g2 g
      · rename_i g0
        obtain ⟨o, ho1, h⟩ := Option.bind_eq_some_iff.mp h
        obtain ⟨v, hv, rfl⟩ := Option.map_eq_some_iff.mp h
        obtain ⟨g1, g2⟩ := jmp_ok hv
        exact go_same X r N hk hn hL fun t g => XS.tswIn X.here hx rfl rfl hd rfl g0 ho1 g1 g2 g
    · cases h
  | getfield i =>
    have hl : len = 3 := hl; subst hl
    dsimp only [stp] at h
    split at h
    · rename_i a S'
      split at h
      · rename_i g0
        obtain rfl := Option.some.inj h
        obtain ⟨T1, X1, e1, st1⟩ := getF X hx hZ hown (host := "") (Or.inl (hw _ ho.2)) Via.refl rfl ((r.obj g0).2 _ ho.1) (g := mkF mid pc L.toArray (.ref a :: S')) rfl rfl hd
        exact go_heap X1 r e1 N hk hn hL fun t g => st1 t g
      · cases h
    · cases h
  | putfield i =>
    have hl : len = 3 := hl; subst hl
    dsimp only [stp] at h
    split at h
    · rename_i v a S'
      split at h
      · rename_i g0
        obtain rfl := Option.some.inj h
        obtain ⟨o1, o2, o3⟩ := ho
        obtain ⟨w1, w2⟩ := isOw_ok g0.1
        obtain ⟨n1, n2⟩ := okv_ok g0.2
        have hlay : (Jvm.Cond.lays C C (fn aux.toNat).1 (fn aux.toNat).2).before a0 Z = true ∨ ((Jvm.Cond.laysFinal C C (fn aux.toNat).1 (fn aux.toNat).2).before a0 Z = true ∧ (nm m).cls = C ∧ meth.name = "<init>") := by
          rcases o3 with q | ⟨q1, q2⟩
          · exact Or.inl (hw _ q)
          · rcases (hG.2.2.1 _ o1).2 with q | q
            · exact Or.inl (hw _ q)
            · exact Or.inr ⟨hw _ q, q1, hnm.trans q2⟩
        obtain ⟨T1, h1, X1, e1, W1, st1⟩ := putF X hx hZ hown (host := "") (Or.inl (hw _ o2)) Via.refl rfl ((r.obj w1).2 _ o1) (r.obj w1).1 hlay (hw _ hG.1) (hG.2.2.1 _ o1).1 n1 n2 (g := mkF mid pc L.toArray (v :: .ref a :: S')) rfl rfl hd
        exact ⟨T1, _, X1, by rw [e1]; exact r.wrF hG hw w1 o1 W1, Fr.snoc X1 N (r.own w2), hk, hn, hL, st1⟩
      · cases h
    · cases h
  | iaload =>
    have hl : len = 1 := hl; subst hl
    dsimp only [stp] at h
    split at h
    · rename_i i a S'
      split at h
      · rename_i g0
        obtain rfl := Option.some.inj h
        obtain ⟨w1, w2, w3⟩ := inA_ok g0
        obtain ⟨b1, cl, b2, b3, b4⟩ := r.arr w1
        exact go_same X r N hk hn hL fun t g => X.iaload hx (g := mkF mid pc L.toArray (.int i :: .ref a :: S')) b2.1 (State.isArrayOf_alike hZ.alike b2.2.1) b2.2.2 (by rw [b3]; exact idx_not w2 w3) (b4 _ w3) rfl rfl hd t g
      · cases h
    · cases h
  | laload =>
    have hl : len = 1 := hl; subst hl
    dsimp only [stp] at h
    split at h
    · rename_i i a S'
      split at h
      · rename_i g0
        obtain rfl := Option.some.inj h
        obtain ⟨w1, w2, w3⟩ := inA_ok g0
        obtain ⟨b1, cl, b2, b3, b4⟩ := r.arr w1
        exact go_same X r N hk hn hL fun t g => X.laload hx (g := mkF mid pc L.toArray (.int i :: .ref a :: S')) b2.1 (State.isArrayOf_alike hZ.alike b2.2.1) b2.2.2 (by rw [b3]; exact idx_not w2 w3) (b4 _ w3) rfl rfl hd t g
      · cases h
    · cases h
  | baload =>
    have hl : len = 1 := hl; subst hl
    dsimp only [stp] at h
    split at h
    · rename_i i a S'
      split at h
      · rename_i g0
        obtain rfl := Option.some.inj h
        rcases g0 with g0 | g0
        · obtain ⟨w1, w2, w3⟩ := inA_ok g0
          obtain ⟨b1, cl, b2, b3, b4⟩ := r.arr w1
          exact go_same X r N hk hn hL fun t g => X.baloadBytes hx (g := mkF mid pc L.toArray (.int i :: .ref a :: S')) b2.1 (State.isArrayOf_alike hZ.alike b2.2.1) b2.2.2 (by rw [b3]; exact idx_not w2 w3) (b4 _ w3) rfl rfl hd t g
        · obtain ⟨w1, w2, w3⟩ := inA_ok g0
          obtain ⟨b1, cl, b2, b3, b4⟩ := r.arr w1
          exact go_same X r N hk hn hL fun t g => X.baloadBooleans hx (g := mkF mid pc L.toArray (.int i :: .ref a :: S')) b2.1 (State.isArrayOf_alike hZ.alike b2.2.1) b2.2.2 (by rw [b3]; exact idx_not w2 w3) (b4 _ w3) rfl rfl hd t g
      · cases h
    · cases h
  | iastore =>
    have hl : len = 1 := hl; subst hl
    dsimp only [stp] at h
    split at h
    · rename_i x i a S'
      split at h
      · rename_i g0
        obtain rfl := Option.some.inj h
        obtain ⟨g1, g2⟩ := inAw_ok g0
        obtain ⟨w1, w2, w3⟩ := inA_ok g1
        obtain ⟨b1, cl, b2, b3, b4⟩ := r.arr w1
        obtain ⟨T1, h1, X1, e1, W1, st1⟩ := stI X hx hZ rfl b2 (j := i) (x := x) (by rw [b3]; exact idx_not w2 w3) (g := mkF mid pc L.toArray (.int x :: .int i :: .ref a :: S')) rfl rfl hd
        exact ⟨T1, _, X1, by rw [e1]; exact r.wrA w1 w3 W1, Fr.snoc X1 N (r.own g2), hk, hn, hL, st1⟩
      · cases h
    · cases h
  | lastore =>
    have hl : len = 1 := hl; subst hl
    dsimp only [stp] at h
    split at h
    · rename_i x i a S'
      split at h
      · rename_i g0
        obtain rfl := Option.some.inj h
        obtain ⟨g1, g2⟩ := inAw_ok g0
        obtain ⟨w1, w2, w3⟩ := inA_ok g1
        obtain ⟨b1, cl, b2, b3, b4⟩ := r.arr w1
        obtain ⟨T1, h1, X1, e1, W1, st1⟩ := stJ X hx hZ rfl b2 (j := i) (x := x) (by rw [b3]; exact idx_not w2 w3) (g := mkF mid pc L.toArray (.long x :: .int i :: .ref a :: S')) rfl rfl hd
        exact ⟨T1, _, X1, by rw [e1]; exact r.wrA w1 w3 W1, Fr.snoc X1 N (r.own g2), hk, hn, hL, st1⟩
      · cases h
    · cases h
  | bastore =>
    have hl : len = 1 := hl; subst hl
    dsimp only [stp] at h
    split at h
    · rename_i x i a S'
      split at h
      · rename_i g0
        obtain rfl := Option.some.inj h
        rcases g0 with ⟨g0, gx⟩ | ⟨g0, gx⟩
        · obtain ⟨g1, g2⟩ := inAw_ok g0
          obtain ⟨w1, w2, w3⟩ := inA_ok g1
          obtain ⟨b1, cl, b2, b3, b4⟩ := r.arr w1
          have hx2 : nar .byte x = x := Value.int.inj (okv_ok gx).1
          obtain ⟨T1, h1, X1, e1, W1, st1⟩ := stB X hx hZ rfl b2 (j := i) (x := x) (by rw [b3]; exact idx_not w2 w3) (g := mkF mid pc L.toArray (.int x :: .int i :: .ref a :: S')) rfl rfl hd
          rw [hx2] at W1
          exact ⟨T1, _, X1, by rw [e1]; exact r.wrA w1 w3 W1, Fr.snoc X1 N (r.own g2), hk, hn, hL, st1⟩
        · obtain ⟨g1, g2⟩ := inAw_ok g0
          obtain ⟨w1, w2, w3⟩ := inA_ok g1
          obtain ⟨b1, cl, b2, b3, b4⟩ := r.arr w1
          have hx2 : nar .boolean x = x := Value.int.inj (okv_ok gx).1
          obtain ⟨T1, h1, X1, e1, W1, st1⟩ := stZ X hx hZ rfl b2 (j := i) (x := x) (by rw [b3]; exact idx_not w2 w3) (g := mkF mid pc L.toArray (.int x :: .int i :: .ref a :: S')) rfl rfl hd
          rw [hx2] at W1
          exact ⟨T1, _, X1, by rw [e1]; exact r.wrA w1 w3 W1, Fr.snoc X1 N (r.own g2), hk, hn, hL, st1⟩
      · cases h
    · cases h
  | arraylength =>
    have hl : len = 1 := hl; subst hl
    dsimp only [stp] at h
    split at h
    · rename_i a S'
      split at h
      · rename_i g0
        obtain rfl := Option.some.inj h
        obtain ⟨t0, w1⟩ : ∃ t0, (H.2 a).1 = .array t0 := by unfold isA at g0; cases hq : (H.2 a).1 <;> rw [hq] at g0 <;> first | (cases g0; done) | exact ⟨_, rfl⟩
        obtain ⟨b1, cl, b2, b3, b4⟩ := r.arr w1
        refine go_same X r N hk hn hL fun t g => X.arraylength hx (g := mkF mid pc L.toArray (.ref a :: S')) b2.1 (State.isArrayOf_alike hZ.alike b2.2.1) rfl rfl hd t ?_
        rw [b3]; exact g
      · cases h
    · cases h
  | newarray t =>
    have hl : len = 2 := hl; subst hl
    dsimp only [stp] at h
    split at h
    · rename_i cnt S'
      split at h
      · rename_i g0
        obtain rfl := Option.some.inj h
        obtain ⟨z1, z2, z3, z4⟩ := g0
        have hcb : componentBytes (newarray.typeOf t) ≤ 8 := by cases t <;> decide
        obtain ⟨cA, kA, comp, h1, h2, h3, X1, st1⟩ := X.newarrayPrim hx (mvA hZ (hw _ ho)) (g := mkF mid pc L.toArray (.int cnt :: S')) rfl hd rfl z1 (Nat.le_trans (Nat.mul_le_mul_left _ hcb) z2) z3 z4
        refine ⟨_, locs, X1, ?_, N, z3, z4, hL, fun t g => st1 t (by rw [r.1]; exact g)⟩
        exact r.ext (ext_push _ _) (by show (T.heap.push _).size = _; simp) ⟨fun _ => by rw [r.1]; exact r.2.1, (back32 z1).2, _, made_arr hZ h1 h2 h3, by simp, fun i hi => by simp [hi]⟩
      · cases h
    · cases h
  | new i =>
    have hl : len = 3 := hl; subst hl
    dsimp only [stp] at h
    split at h
    · rename_i g0
      obtain rfl := Option.some.inj h
      obtain ⟨z1, z2, z3⟩ := g0
      rw [ho.1] at z3 ⊢
      obtain ⟨vm1, cC, kC, h1, h2, h3, h4, X1, st1⟩ := X.newCold hx hown (mv hZ (hw _ ho.2)) (mv hZ (hw _ hG.1)) (mv hZ (hw _ hG.2.1)) (g := mkF mid pc L.toArray S) rfl hd z2 z3
      obtain ⟨A1, D1⟩ := made_obj (h := T.heap) (a0 := a0) hZ h1 h2
      refine ⟨_, locs, X1, ?_, N, z2, z3, hL, fun t g => st1 t (by rw [r.1]; exact g)⟩
      exact r.ext (ext_push _ _) (by show (T.heap.push _).size = _; simp) ⟨fun _ => by rw [r.1]; exact r.2.1, A1, fun j hj => D1 (((hG.2.2.1 j hj).2).imp (hw _) (hw _)) (hG.2.2.1 j hj).1⟩
    · cases h
  | invokespecial i =>
    have hl : len = 3 := hl; subst hl
    dsimp only [stp] at h
    split at h
    · rename_i a S'
      split at h
      · rename_i g0
        obtain rfl := Option.some.inj h
        obtain ⟨rfl, z2, z3⟩ := g0
        obtain ⟨o1, o2, o3⟩ := ho.1 rfl
        obtain ⟨T1, X1, e1, st1⟩ := initO X hx hZ hown (hw _ o1) (hw _ o2) (hw _ o3) rfl (g := mkF mid pc L.toArray (.ref a :: S')) rfl (by rw [hml, ← hL]; simp) rfl hd z2 (W := cs S') (by show 2 * 0 + _ ≤ _; exact Nat.le_of_eq (Nat.zero_add _)) z3
        exact go_heap X1 r e1 N hk hn hL fun t g => st1 t g
      · cases h
    · cases h
  | _ => exact absurd (show (none : Option Fm) = some q from h) (by simp)
end Step
end Jvm.JX

namespace Jvm.JX
open Sem ClassFile Op Lib Jvm.Stand Jvm.Free Jvm.LawKit Jvm.RoadKit
section Sound
variable {P : Prog} {tb : List Jvm.Cond} {C : String} {fn : Nat → String × String} {F : List Nat} {nsl : Nat} {nm : Nat → MethodName} {bt : Nat → ByteArray} {R : List Nat} {top : Nat}
variable {l : Launch} {Z : State} {a0 : Array Value} {n0 : Nat}
def Endd (C : String) (fn : Nat → String × String) (F : List Nat) (Z : State) (n0 : Nat) (p : Program) (l : Launch) (e : Env) (Rm : Jvm.Room) (s : State) (mid : MethodId) (args : Array Value) (below : List Frame) (meth : Method) (c : Code) (rt0 : Option FieldType) (start : State) (v : Option Value) (H' : AH) : Prop :=
  ∃ T' locs' k' n', Stand p l e Rm s mid args below meth c T' locs' k' n' ∧ RelH C fn F Z n0 T'.heap H' ∧ Fr n0 locs' ∧ k' ≤ Rm.cells ∧ n' ≤ Rm.slots ∧ (rt0 = none → v = none) ∧
    ∀ fs, (∀ (f : JFrame) (acts : List Action), f.method = mid → f.locked = none → f.entered = [] → (doReturn e (T'.setTop f) acts v).1 = T'.setFrames fs) → Steps p.tables e below start (T'.setFrames fs)
def Says (P : Prog) (C : String) (fn : Nat → String × String) (F : List Nat) (nm : Nat → MethodName) (bt : Nat → ByteArray) (l : Launch) (Z : State) (n0 m pc : Nat) (L : List Slot) (S : List Value) (k n : Nat) (H : AH) (v : Option Value) (H' : AH) : Prop :=
  ∀ (p : Program) (e : Env) (s : State) (mid : MethodId) (args : Array Value) (below : List Frame) (meth : Method) (c : Code) (T : State) (locs : List Loc), Stand p l e (rm P m) s mid args below meth c T locs k n → p.tables.exec = Jvm.exec → Z.Warmed39 s.vm → c.code = bt m → c.maxLocals = ml P m →
    s.vm.findClass (nm m).cls = some mid.cls → meth.name = (nm m).name → meth.sig.returnType = rt P m → L.length = ml P m → RelH C fn F Z n0 T.heap H → Fr n0 locs → k ≤ (rm P m).cells → n ≤ (rm P m).slots →
    Endd C fn F Z n0 p l e (rm P m) s mid args below meth c (rt P m) (T.setTop (mkF mid pc L.toArray S)) v H'
theorem Endd.back {p : Program} {e : Env} {Rm : Jvm.Room} {s : State} {mid : MethodId} {args : Array Value} {below : List Frame} {meth : Method} {c : Code} {rt0 : Option FieldType} {start start' : State} {v : Option Value} {H' : AH}
    (h : Endd C fn F Z n0 p l e Rm s mid args below meth c rt0 start' v H') (st : ∀ t, Steps p.tables e below start' t → Steps p.tables e below start t) : Endd C fn F Z n0 p l e Rm s mid args below meth c rt0 start v H' := by
  obtain ⟨T', locs', k', n', h1, h2, h3, h4, h5, h6, h7⟩ := h
  exact ⟨T', locs', k', n', h1, h2, h3, h4, h5, h6, fun fs g => st _ (h7 fs g)⟩
theorem met_of {m : Nat} {as : List Value} {H H' : AH} {v : Option Value} {h : Heap} (ws : List Jvm.Cond) (hp : plainName (nm m).cls = true) (hl : (Sym.laidSlots as).length ≤ ml P m) (r : RelH C fn F Z n0 h H)
    (hS : Says P C fn F nm bt l Z n0 m 0 (ent P m as) [] 0 0 H v H') :
    MetFree l (nm m) (head1 (Jvm.Cond.code (nm m) (bt m) (ml P m) (rt P m) :: ws) (rm P m)) (fun a U => a = as.toArray ∧ Z.Warmed39 U.vm ∧ U.heap = h) (fun _ _ _ _ _ => True)
      (fun _ U o U' => ∃ v' L, o = .returned v' ∧ (v' = v ∧ Fr n0 L ∧ RelH C fn F Z n0 U'.heap H') ∧ FrameEnd U o U' L (rm P m).cells (rm P m).slots) := by
  refine MetFree.of_bodySF (plainFor_of_name hp) hisR ?_
  intro p e s mid args below meth c s₁ Bd hml0 hP hK
  obtain ⟨rfl, hZ, hh⟩ := hP
  have X0 : Stand p l e (rm P m) s mid as.toArray below meth c s₁ [] 0 0 := Stand.of_body Bd
  have e0 : s₁.heap = h := by rw [← hh, Bd.state]; rfl
  have hle : (ent P m as).length = ml P m := by simp [ent]; omega
  obtain ⟨T', locs', k', n', X1, r1, N1, hk1, hn1, hv1, st1⟩ := hS p e s mid as.toArray below meth c s₁ [] X0 Bd.exec hZ Bd.bytes hml0 (findClass_of_methodNamed Bd.named) (name_of_methodNamed Bd.named Bd.method).1 Bd.returns hle (by rw [e0]; exact r) (Fr.nil n0) (Nat.zero_le _) (Nat.zero_le _)
  obtain ⟨fs, hr, hrun, hended, hW, hsame⟩ := X1.leave (v := v) (fun q => hv1 (Bd.returns.symm.trans q))
  refine ⟨_, _, (Jvm.Free.XT.entry (Ls := (ent P m as).toArray) (by simp [ent])).trans (st1 fs hr), hrun, hended, v, locs', rfl, ⟨rfl, N1, r1⟩, ⟨_, rfl⟩, hW, hsame.mono hk1 hn1⟩
theorem ret_ok {m : Nat} {ins : Instr} {S : List Value} {v : Option Value} (h : ret P m ins S = some v) : (rt P m = none ∧ v = none ∧ ins = .return_ ∧ S = []) ∨ ∃ t w rest, rt P m = some t ∧ v = some w ∧ S = w :: rest ∧ narrow t w = w ∧
    ((ins = .ireturn ∧ (t = .int ∨ t = .boolean ∨ t = .byte ∨ t = .char ∨ t = .short) ∧ ∃ z, w = .int z) ∨ (ins = .lreturn ∧ t = .long ∧ ∃ z, w = .long z)) := by
  unfold ret at h
  split at h
  · split at h
    · rename_i g; cases h; exact Or.inl ⟨g.1, rfl, rfl, g.2⟩
    · cases h
  · split at h
    · rename_i z rest g; cases h; exact Or.inr ⟨.int, _, rest, g, rfl, rfl, rfl, Or.inl ⟨rfl, Or.inl rfl, z, rfl⟩⟩
    · rename_i z rest g
      split at h
      · rename_i g0
        cases h
        refine Or.inr ⟨.boolean, _, rest, g, rfl, rfl, ?_, Or.inl ⟨rfl, Or.inr (Or.inl rfl), z, rfl⟩⟩
        rcases g0 with rfl | rfl <;> rfl
      · cases h
    · cases h
  · split at h
    · rename_i z rest g; cases h; exact Or.inr ⟨.long, _, rest, g, rfl, rfl, rfl, Or.inr ⟨rfl, rfl, z, rfl⟩⟩
    · cases h
  · cases h
theorem cal_ok {m m' k n : Nat} {ins : Instr} {aux : Int} {S a r : List Value} {H : AH} (h : cal P m ins aux S k n H = some (m', a, r)) : aux = (m' : Int) ∧ kindOk ins (kd P m') = true ∧ may P m m' a r k n H = true ∧ S = a.reverse ++ r := by
  have h1 : cal1 P m ins aux S k n H = some (m', a, r) := by
    unfold cal at h
    split at h <;> first | exact h | (cases h)
  unfold cal1 at h1
  split at h1
  · rename_i g
    cases h1
    exact ⟨by omega, g.2.1, g.2.2, by rw [List.reverse_reverse]; exact (List.take_append_drop ..).symm⟩
  · cases h1
end Sound
end Jvm.JX

namespace Jvm.JX
open Sem ClassFile Op Lib Jvm.Stand Jvm.Free Jvm.LawKit Jvm.RoadKit
section Sound
variable {P : Prog} {tb : List Jvm.Cond} {C : String} {fn : Nat → String × String} {F : List Nat} {nsl : Nat} {nm : Nat → MethodName} {bt : Nat → ByteArray} {R : List Nat} {top : Nat}
variable {l : Launch} {Z : State} {a0 : Array Value} {n0 : Nat}
theorem may_ok {m m' k n : Nat} {a r : List Value} {H : AH} (h : may P m m' a r k n H = true) : (Sym.laidSlots a).length ≤ ml P m' ∧ a.length = na P m' ∧ (rm P m').frames + 1 ≤ (rm P m).frames ∧ cs r + (ml P m' + 11) + (rm P m').locals ≤ (rm P m).locals ∧
    (((rm P m').cells = 0 ∧ (rm P m').slots = 0) ∨ (k + (rm P m').cells ≤ (rm P m).cells ∧ n + (rm P m').slots ≤ (rm P m).slots)) ∧ (kd P m' = 0 ∨ rcv H a = true) := by
  simpa [may, and_assoc] using h
theorem rcv_ok {H : AH} {a : List Value} (h : rcv H a = true) : ∃ b as, a = .ref b :: as ∧ isO H b = true := by
  unfold rcv at h
  split at h
  · exact ⟨_, _, rfl, h⟩
  · cases h
set_option maxHeartbeats 1000000 in
theorem call_go {m pc len k n m' : Nat} {aux : Int} {L : List Slot} {S a r : List Value} {H H1 : AH} {ins : Instr} {v1 : Option Value} {p : Program} {e : Env} {s : State} {mid : MethodId} {args : Array Value} {below : List Frame} {meth : Method} {c : Code} {T : State} {locs : List Loc}
    (hG : Good P tb C fn F nsl nm bt R top) (hw : ∀ d ∈ tb, d.before a0 Z = true) (hm : m ∈ R) (hrow : P.1 m pc = some (ins, len, aux)) (hc : cal P m ins aux S k n H = some (m', a, r)) (hS : m' ∈ R → Says P C fn F nm bt l Z n0 m' 0 (ent P m' a) [] 0 0 H v1 H1)
    (X : Stand p l e (rm P m) s mid args below meth c T locs k n) (hx : p.tables.exec = Jvm.exec) (hZ : Z.Warmed39 s.vm)
    (hby : c.code = bt m) (hml : c.maxLocals = ml P m) (hown : s.vm.findClass (nm m).cls = some mid.cls) (hL : L.length = ml P m) (rr : RelH C fn F Z n0 T.heap H) (N : Fr n0 locs) (hk : k ≤ (rm P m).cells) (hn : n ≤ (rm P m).slots) :
    Go C fn F Z n0 p l e (rm P m) s mid args below meth c (T.setTop (mkF mid pc L.toArray S)) (ml P m) (pc + len, L, v1.toList ++ r, k + (rm P m').cells, n + (rm P m').slots, H1) := by
  obtain ⟨hd, hl, ho⟩ := (hG.2.2.2.2.1 m hm).2.2 pc ins len aux hrow
  replace hd := hb hby hd
  obtain ⟨e1, e2, e3, e4⟩ := cal_ok hc
  obtain ⟨y1, y2, y3, y4, y5, y6⟩ := may_ok e3
  have hnt : m' ≠ top := fun q => by
    have := hG.2.2.2.2.2.2 m hm pc ins len aux hrow (by rw [e1, q])
    rw [q, this] at e2; cases e2
  have y5' : k + (rm P m').cells ≤ (rm P m).cells ∧ n + (rm P m').slots ≤ (rm P m).slots := by rcases y5 with ⟨q1, q2⟩ | q <;> omega
  have hsize : (mkF mid pc L.toArray S).locals.size = c.maxLocals := by rw [hml, ← hL]; simp
  have hcs : 2 * (mkF mid pc L.toArray S).monitorRoom + (r.map fun v => v.category).sum ≤ cs r := by show 2 * 0 + _ ≤ _; exact Nat.le_of_eq (Nat.zero_add _)
  subst e1
  cases ins with
  | invokevirtual ix =>
    have hl : len = 3 := hl
    subst hl
    obtain ⟨mR, lnk⟩ := ho
    rw [Int.toNat_natCast] at mR lnk
    obtain ⟨c1, c2, ⟨ps, rr0, c3, c4⟩, c5, c6, c7, c8, c9⟩ := hG.2.2.2.2.2.1 m' mR hnt
    have hk0 : kd P m' ≠ 0 := fun q => by rw [q] at e2; cases e2
    obtain ⟨hcls, hinst⟩ := c6 hk0
    obtain ⟨b, as, rfl, hb⟩ := rcv_ok (y6.resolve_left hk0)
    obtain ⟨Eb, -⟩ := rr.obj hb
    have hlen : as.length = ps.length := by rw [if_neg hk0] at c4; simp only [List.length_cons] at y2; omega
    have eS : S = as.reverse ++ .ref b :: r := by rw [e4]; simp
    subst eS
    obtain ⟨pn, hy, -⟩ := hG.2.2.2.2.1 m' mR
    have BK := backOf (Q := fun v' h' L' => v' = v1 ∧ Fr n0 L' ∧ RelH C fn F Z n0 h' H1) (R := rm P m) (W := cs r) (p := p) (e := e) (below := below) (s := s) (args := args) (len := 3) (met_of [] pn y1 rr (hS mR)) hZ (hw _ c1) (hw _ c2) y3 y4
    have hkk : kd P m' = 1 ∨ kd P m' = 2 := by simpa [kindOk] using e2
    rcases hkk with hkk | hkk
    · obtain ⟨d1, d2⟩ := c7 hkk
      obtain ⟨cB, kB, q1, q2, q3⟩ := isOf (T := T) hZ rfl Eb
      obtain ⟨v, vm1, ⟨T1, L1, k1, n1⟩, -, X1, ⟨Lc, hQ, l1, z1, z2⟩, st⟩ := X.virtualBack hx (y := nm m') (z := nm m') hown (mvT hZ (hw _ lnk)) (mvT hZ (hw _ d1)) (notFace_of_selects (args := #[]) (mvT hZ (hw _ d2))) (mvT hZ (hw _ d2)) (mvT hZ (hw _ hinst)) hy BK q1 q3 (g := mkF mid pc L.toArray (as.reverse ++ .ref b :: r)) rfl hsize (Steps.refl _) (argsL := as) (rest := r) (lenOf c3 hlen) rfl hcs hd (fun _ _ => ⟨rfl, rfl, y5'.1, y5'.2⟩)
      dsimp only [Pt.U, Pt.locs, Pt.cells, Pt.slots] at X1 l1 z1 z2 st hQ
      subst l1 z1 z2
      obtain ⟨rfl, N1, r1⟩ := hQ
      exact ⟨T1, _, X1, r1, Fr.app N N1, y5'.1, y5'.2, hL, fun t g => st.trans g⟩
    · obtain ⟨ci, ki, i1, i2, i3, i4, -⟩ := Cond.instantiable_spec (show (Jvm.Cond.instantiable C nsl).before args s = true from mv hZ (hw _ hG.1))
      have hni : ki.isInterface = false := (Bool.or_eq_false_iff.mp i4).1
      have hpriv := Cond.privateMethod_at (mvP hZ (hw _ (c8 hkk)) (args := #[]))
      have hsel : (Jvm.Cond.selects (nm m').cls (nm m') (nm m')).before args s = true := selects_self_of_private (by rw [hcls]; exact i1) i2 hni hpriv (mvT hZ (hw _ hinst)) hy
      obtain ⟨cl, hcl, hcl'⟩ := Eb.cell
      obtain ⟨v, vm1, ⟨T1, L1, k1, n1⟩, -, X1, ⟨Lc, hQ, l1, z1, z2⟩, st⟩ := X.privateBack hx (y := nm m') hown (mvT hZ (hw _ lnk)) (mvT hZ (hw _ hinst)) hsel hpriv (mvT hZ (hw _ c1)) hy BK (g := mkF mid pc L.toArray (as.reverse ++ .ref b :: r)) rfl hsize (Steps.refl _) (a := b) hcl hcl' (argsL := as) (rest := r) (lenOf c3 hlen) rfl hcs hd (fun _ _ => ⟨rfl, rfl, y5'.1, y5'.2⟩)
      dsimp only [Pt.U, Pt.locs, Pt.cells, Pt.slots] at X1 l1 z1 z2 st hQ
      subst l1 z1 z2
      obtain ⟨rfl, N1, r1⟩ := hQ
      exact ⟨T1, _, X1, r1, Fr.app N N1, y5'.1, y5'.2, hL, fun t g => st.trans g⟩
  | invokestatic ix =>
    have hl : len = 3 := hl
    subst hl
    obtain ⟨mR, lnk⟩ := ho
    rw [Int.toNat_natCast] at mR lnk
    obtain ⟨c1, c2, ⟨ps, rr0, c3, c4⟩, c5, c6, c7, c8, c9⟩ := hG.2.2.2.2.2.1 m' mR hnt
    have hk0 : kd P m' = 0 := by simpa [kindOk] using e2
    have hlen : a.length = ps.length := by rw [if_pos hk0] at c4; omega
    subst e4
    obtain ⟨pn, hy, -⟩ := hG.2.2.2.2.1 m' mR
    have BK := backOf (Q := fun v' h' L' => v' = v1 ∧ Fr n0 L' ∧ RelH C fn F Z n0 h' H1) (R := rm P m) (W := cs r) (p := p) (e := e) (below := below) (s := s) (args := args) (len := 3) (met_of [] pn y1 rr (hS mR)) hZ (hw _ c1) (hw _ c2) y3 y4
    obtain ⟨v, vm1, ⟨T1, L1, k1, n1⟩, -, X1, ⟨Lc, hQ, l1, z1, z2⟩, st⟩ := Jvm.LawKit.callS X hx (y := nm m') hown (mvT hZ (hw _ lnk)) (mvT hZ (hw _ (c5 hk0))) (mvT hZ (hw _ c2)) (mvT hZ (hw _ c1)) hy BK (g := mkF mid pc L.toArray (a.reverse ++ r)) rfl hsize (argsL := a) (rest := r) (lenOf c3 hlen) rfl hcs hd (fun _ _ => ⟨rfl, rfl, y5'.1, y5'.2⟩)
    dsimp only [Pt.U, Pt.locs, Pt.cells, Pt.slots] at X1 l1 z1 z2 st hQ
    subst l1 z1 z2
    obtain ⟨rfl, N1, r1⟩ := hQ
    exact ⟨T1, _, X1, r1, Fr.app N N1, y5'.1, y5'.2, hL, fun t g => st t g⟩
  | invokespecial ix =>
    have hl : len = 3 := hl
    subst hl
    obtain ⟨mR, lnk⟩ := ho.2 (by omega)
    rw [Int.toNat_natCast] at mR lnk
    obtain ⟨c1, c2, ⟨ps, rr0, c3, c4⟩, c5, c6, c7, c8, c9⟩ := hG.2.2.2.2.2.1 m' mR hnt
    have hk3 : kd P m' = 3 := by simpa [kindOk] using e2
    have hk0 : kd P m' ≠ 0 := by omega
    obtain ⟨hcls, hinst⟩ := c6 hk0
    obtain ⟨hn3, hr3⟩ := c9 hk3
    obtain ⟨b, as, rfl, hb⟩ := rcv_ok (y6.resolve_left hk0)
    have hlen : as.length = ps.length := by rw [if_neg hk0] at c4; simp only [List.length_cons] at y2; omega
    have eS : S = as.reverse ++ .ref b :: r := by rw [e4]; simp
    subst eS
    obtain ⟨pn, hy, -⟩ := hG.2.2.2.2.1 m' mR
    have BK := backOf (Q := fun v' h' L' => v' = v1 ∧ Fr n0 L' ∧ RelH C fn F Z n0 h' H1) (R := rm P m) (W := cs r) (p := p) (e := e) (below := below) (s := s) (args := args) (len := 3) (met_of [] pn y1 rr (hS mR)) hZ (hw _ c1) (hw _ c2) y3 y4
    rw [hr3] at c1
    obtain ⟨v, vm1, ⟨T1, L1, k1, n1⟩, -, X1, ⟨Lc, hQ, l1, z1, z2⟩, st⟩ := X.specialBack hx (y := nm m') hn3 hown (mvT hZ (hw _ lnk)) (mvT hZ (hw _ hinst)) (mvT hZ (hw _ c1)) hy BK (g := mkF mid pc L.toArray (as.reverse ++ .ref b :: r)) rfl hsize (Steps.refl _) (a := b) (argsL := as) (rest := r) (lenOf c3 hlen) rfl hcs hd (fun _ _ => ⟨rfl, rfl, y5'.1, y5'.2⟩)
    dsimp only [Pt.U, Pt.locs, Pt.cells, Pt.slots] at X1 l1 z1 z2 st hQ
    subst l1 z1 z2
    obtain ⟨rfl, N1, r1⟩ := hQ
    exact ⟨T1, _, X1, r1, Fr.app N N1, y5'.1, y5'.2, hL, fun t g => st.trans g⟩
  | _ => cases e2
theorem sound (hG : Good P tb C fn F nsl nm bt R top) (hw : ∀ d ∈ tb, d.before a0 Z = true) : ∀ (f m : Nat), m ∈ R → ∀ (pc : Nat) (L : List Slot) (S : List Value) (k n : Nat) (H : AH) (v : Option Value) (H' : AH), run P f m pc L S k n H = some (v, H') → Says P C fn F nm bt l Z n0 m pc L S k n H v H' := by
  intro f
  induction f with
  | zero => intro m _ pc L S k n H v H' h; cases h
  | succ f ih =>
    intro m hm pc L S k n H v H' h p e s mid args below meth c T locs X hx hZ hby hml hown hnm hret hL r N hk hn
    rw [run_succ] at h
    cases hd : P.1 m pc with
    | none => rw [hd] at h; cases h
    | some d =>
      obtain ⟨ins, len, aux⟩ := d
      rw [hd] at h
      simp only at h
      cases hr : ret P m ins S with
      | some v1 =>
        rw [hr] at h
        cases h
        obtain ⟨hdec, hl, -⟩ := (hG.2.2.2.2.1 m hm).2.2 pc ins len aux hd
        replace hdec := hb hby hdec
        rcases ret_ok hr with ⟨q1, rfl, rfl, q0⟩ | ⟨t, w, rest, q1, rfl, rfl, q4, q5⟩
        · have hl : len = 1 := hl
          subst hl
          exact ⟨T, locs, k, n, X, r, N, hk, hn, fun _ => rfl, fun fs g => by subst q0; exact X.returnOut hx (hret.trans q1) hdec g⟩
        · refine ⟨T, locs, k, n, X, r, N, hk, hn, fun q => absurd (q1.symm.trans q) (by simp), fun fs g => ?_⟩
          have hl1 : len = 1 := by
            rcases q5 with ⟨rfl, -⟩ | ⟨rfl, -⟩ <;> exact hl
          subst hl1
          exact retOut X hx (hret.trans q1) q4 (q5.elim (fun u => Or.inl u) (fun u => Or.inr (Or.inl u))) hdec g
      | none =>
        rw [hr] at h
        simp only at h
        cases hc : cal P m ins aux S k n H with
        | some cc =>
          obtain ⟨m', a, rs⟩ := cc
          rw [hc] at h
          simp only at h
          cases hq : run P f m' 0 (ent P m' a) [] 0 0 H with
          | none => rw [hq] at h; cases h
          | some q =>
            obtain ⟨v1, H1⟩ := q
            rw [hq] at h
            obtain ⟨T1, locs1, X1, r1, N1, hk1, hn1, hL1, st⟩ := call_go hG hw hm hd hc (fun mR => ih m' mR _ _ _ _ _ _ _ _ hq) X hx hZ hby hml hown hL r N hk hn
            exact (ih m hm _ _ _ _ _ _ _ _ h p e s mid args below meth c T1 locs1 X1 hx hZ hby hml hown hnm hret hL1 r1 N1 hk1 hn1).back st
        | none =>
          rw [hc] at h
          simp only at h
          cases hs : stp P m ins len aux pc L S k n H with
          | none => rw [hs] at h; cases h
          | some q =>
            rw [hs] at h
            obtain ⟨T1, locs1, X1, r1, N1, hk1, hn1, hL1, st⟩ := stp_go hG hw hm hd hs X hx hZ hby hml hown hnm hL r N hk hn
            exact (ih m hm _ _ _ _ _ _ _ _ h p e s mid args below meth c T1 locs1 X1 hx hZ hby hml hown hnm hret hL1 r1 N1 hk1 hn1).back st
theorem law_met (hG : Good P tb C fn F nsl nm bt R top) (hw : ∀ d ∈ tb, d.before a0 Z = true) {as : List Value} {H : AH} {h : Heap} {Q : Option Value → AH → Prop} (ws : List Jvm.Cond) (ht : top ∈ R) (hl : (Sym.laidSlots as).length ≤ ml P top) (r : RelH C fn F Z n0 h H) (hC : Cl P top as H Q) :
    MetFree l (nm top) (head1 (Jvm.Cond.code (nm top) (bt top) (ml P top) (rt P top) :: ws) (rm P top)) (fun a U => a = as.toArray ∧ Z.Warmed39 U.vm ∧ U.heap = h) (fun _ _ _ _ _ => True)
      (fun _ U o U' => ∃ v' L, o = .returned v' ∧ (Fr n0 L ∧ ∃ H', Q v' H') ∧ FrameEnd U o U' L (rm P top).cells (rm P top).slots) := by
  obtain ⟨f, v, H', h1, h2⟩ := hC
  have hM := met_of (l := l) (h := h) ws (hG.2.2.2.2.1 top ht).1 hl r (sound hG hw f top ht _ _ _ _ _ _ _ _ h1)
  intro p e ha hc hk s m args below hf happ hP hK
  obtain ⟨n, o, q1, q2, q3, v', L, q4, ⟨q5, q6, q7⟩, q8⟩ := hM p e ha hc hk s m args below hf happ hP hK
  exact ⟨n, o, q1, q2, q3, v', L, q4, ⟨q6, H', by rw [q5]; exact h2⟩, q8⟩
end Sound
end Jvm.JX
namespace Jvm.JX
open Sem ClassFile Op Lib Jvm.Stand Jvm.Free Jvm.LawKit Jvm.RoadKit
theorem fa0 {α : Type} {p : α → Prop} : ∀ x ∈ ([] : List α), p x := fun _ q => nomatch q
theorem faS {α : Type} {p : α → Prop} {y : α} {L : List α} (q : p y) (r : ∀ x ∈ L, p x) : ∀ x ∈ y :: L, p x := fun x z => (List.mem_cons.mp z).elim (fun u => u ▸ q) (r x)
def rowChk (FL ML : List (Nat × Nat × Nat)) (KI KJ : List (Nat × Nat × Int)) (AT : List FieldType) (WF : List Nat) (nsl nw : Nat) (own : Nat) (ini : Bool) (ins : Instr) (aux : Int) : Bool :=
  match ins with
  | .getfield i => FL.contains (own, i, aux.toNat)
  | .putfield i => FL.contains (own, i, aux.toNat) && (WF.contains aux.toNat || ini)
  | .new i => decide (aux.toNat = nsl) && decide (own = 1) && decide (i = nw)
  | .newarray t => decide (newarray.typeOf t ∈ AT)
  | .ldc i => KI.contains (own, i, aux)
  | .ldc2_w i => KJ.contains (own, i, aux)
  | .invokevirtual i => ML.contains (own, i, aux.toNat)
  | .invokestatic i => ML.contains (own, i, aux.toNat)
  | .invokespecial i => if aux = -1 then decide (own = 0) && decide (i = 1) else ML.contains (own, i, aux.toNat)
  | _ => true
def rowOne (FL ML : List (Nat × Nat × Nat)) (KI KJ : List (Nat × Nat × Int)) (AT : List FieldType) (WF : List Nat) (nsl nw : Nat) (bt : Nat → ByteArray) (own : Nat → Nat) (ini : Nat → Bool) (m : Nat) (r : Row) : Bool :=
  decide (decode (bt m) r.1 = .ok (r.2.1, r.2.2.1)) && decide (r.2.2.1 = ilen2 r.2.1 r.2.2.1) && rowChk FL ML KI KJ AT WF nsl nw (own m) (ini m) r.2.1 r.2.2.2
theorem lookup_mem {L : List Row} {pc : Nat} {d : Instr × Nat × Int} (h : L.lookup pc = some d) : (pc, d) ∈ L := by
  induction L with
  | nil => cases h
  | cons x L ih =>
    obtain ⟨k, v⟩ := x
    rw [List.lookup_cons] at h
    by_cases e : pc = k
    · subst e; simp at h; subst h; exact List.mem_cons_self ..
    · have : (pc == k) = false := by simpa using e
      rw [this] at h; exact List.mem_cons_of_mem _ (ih h)
theorem row_ok {P : Prog} {tb : List Jvm.Cond} {C : String} {fn : Nat → String × String} {F : List Nat} {nsl nw : Nat} {nm : Nat → MethodName} {R : List Nat} {cn : Nat → String} {own : Nat → Nat} {ini : Nat → Bool}
    {FL ML : List (Nat × Nat × Nat)} {KI KJ : List (Nat × Nat × Int)} {AT : List FieldType} {WF : List Nat} {m : Nat} {ins : Instr} {aux : Int}
    (hown : (nm m).cls = cn (own m)) (hini : ini m = true → (nm m).cls = C ∧ (nm m).name = "<init>")
    (hFL : ∀ t ∈ FL, t.2.2 ∈ F ∧ Jvm.Cond.fieldLink (cn t.1) t.2.1 C (fn t.2.2).1 (fn t.2.2).2 ∈ tb) (hWF : ∀ k ∈ WF, Jvm.Cond.lays C C (fn k).1 (fn k).2 ∈ tb)
    (hML : ∀ t ∈ ML, t.2.2 ∈ R ∧ Jvm.Cond.methodLink (cn t.1) t.2.1 (nm t.2.2) ∈ tb) (hKI : ∀ t ∈ KI, Jvm.Cond.constant (cn t.1) t.2.1 (Int32.ofInt t.2.2) ∈ tb) (hKJ : ∀ t ∈ KJ, Jvm.Cond.constantLong (cn t.1) t.2.1 (Int64.ofInt t.2.2) ∈ tb)
    (hAT : ∀ t ∈ AT, Jvm.Cond.arrayClass t ∈ tb) (hN : Jvm.Cond.classLink (cn 1) nw C ∈ tb)
    (hO : Jvm.Cond.methodLink (cn 0) 1 Lib.objectInit ∈ tb ∧ Jvm.Cond.instanceMethod Lib.objectInit ∈ tb ∧ Jvm.Cond.code Lib.objectInit ⟨#[0xb1]⟩ 1 none ∈ tb)
    (h : rowChk FL ML KI KJ AT WF nsl nw (own m) (ini m) ins aux = true) : RowOk P tb C fn F nsl nm R m ins aux := by
  cases ins <;> first | trivial | skip
  case getfield i => have q := hFL _ (List.contains_iff_mem.mp h); exact ⟨q.1, by rw [hown]; exact q.2⟩
  case putfield i =>
    simp only [rowChk, Bool.and_eq_true, Bool.or_eq_true] at h
    have q := hFL _ (List.contains_iff_mem.mp h.1)
    exact ⟨q.1, by rw [hown]; exact q.2, h.2.imp (fun u => hWF _ (List.contains_iff_mem.mp u)) hini⟩
  case new i =>
    simp only [rowChk, Bool.and_eq_true, decide_eq_true_eq] at h
    obtain ⟨⟨h1, h2⟩, h3⟩ := h
    exact ⟨h1, by rw [hown, h2, h3]; exact hN⟩
  case newarray t => exact hAT _ (of_decide_eq_true h)
  case ldc i => have q := hKI _ (List.contains_iff_mem.mp h); show _ ∈ tb; rw [hown]; exact q
  case ldc2_w i => have q := hKJ _ (List.contains_iff_mem.mp h); show _ ∈ tb; rw [hown]; exact q
  case invokevirtual i => have q := hML _ (List.contains_iff_mem.mp h); exact ⟨q.1, by rw [hown]; exact q.2⟩
  case invokestatic i => have q := hML _ (List.contains_iff_mem.mp h); exact ⟨q.1, by rw [hown]; exact q.2⟩
  case invokespecial i =>
    simp only [rowChk] at h
    refine ⟨fun e => ?_, fun e => ?_⟩
    · rw [if_pos e] at h
      simp only [Bool.and_eq_true, decide_eq_true_eq] at h
      rw [hown, h.1, h.2]; exact hO
    · rw [if_neg (by omega)] at h
      have q := hML _ (List.contains_iff_mem.mp h)
      exact ⟨q.1, by rw [hown]; exact q.2⟩
theorem rel_H1 {C : String} {fn : Nat → String × String} {F : List Nat} {s : State} {a : Addr} {cl : Cell} (hf : Fit s) (A : Arr s s.heap a cl .int) (hl : cl.slots.size < 2 ^ 31) :
    ∃ f : Nat → Int32, RelH C fn F s s.heap.size s.heap (H1 s.heap.size a cl.slots.size f) := by
  refine ⟨fun i => match cl.slots[i]? with | some (.int x) => x | _ => 0, rfl, Nat.le_refl _, fun b => ?_⟩
  simp only [H1]
  by_cases e : b = a
  · subst e
    simp only [if_true]
    refine ⟨fun q => (by cases q), hl, cl, A, rfl, fun i hi => ?_⟩
    have hi : i < cl.slots.size := hi
    have hj := idx_in hi hl
    obtain ⟨v, q1, q2⟩ := elem_fit hf A hj
    have e2 : (i.toInt32).toNatClampNeg = i := by
      have := len_toInt (n := i) (by omega)
      simp only [Int32.toNatClampNeg, this]; omega
    rw [e2] at q1
    obtain ⟨x, rfl⟩ := fit_I q2 (Or.inl rfl)
    show _ = some (Value.int (match cl.slots[i]? with | some (.int x) => x | _ => 0))
    rw [q1]
  · simp only [e, if_false]; exact ⟨fun q => (by cases q), trivial⟩
end Jvm.JX

namespace Jvm.JX.Pj
open Jvm Jvm.ClassFile Sem Op Lib Jvm.JX
def r1 : List Row := [(0, .aload_n 0, 1, 0), (1, .invokespecial 1, 3, (-1)), (4, .aload_n 0, 1, 0), (5, .sipush 128, 3, 0), (8, .newarray .int, 2, 0), (10, .putfield 7, 3, 4), (13, .aload_n 0, 1, 0), (14, .sipush 128, 3, 0), (17, .newarray .int, 2, 0), (19, .putfield 13, 3, 5), (22, .aload_n 0, 1, 0), (23, .sipush 128, 3, 0), (26, .newarray .int, 2, 0), (28, .putfield 16, 3, 6), (31, .aload_n 0, 1, 0), (32, .sipush 128, 3, 0), (35, .newarray .boolean, 2, 0), (37, .putfield 19, 3, 7), (40, .aload_n 0, 1, 0), (41, .sipush 128, 3, 0), (44, .newarray .boolean, 2, 0), (46, .putfield 23, 3, 8), (49, .aload_n 0, 1, 0), (50, .sipush 128, 3, 0), (53, .newarray .int, 2, 0), (55, .putfield 26, 3, 9), (58, .aload_n 0, 1, 0), (59, .sipush 128, 3, 0), (62, .newarray .int, 2, 0), (64, .putfield 29, 3, 10), (67, .aload_n 0, 1, 0), (68, .sipush 128, 3, 0), (71, .newarray .int, 2, 0), (73, .putfield 32, 3, 11), (76, .aload_n 0, 1, 0), (77, .sipush 128, 3, 0), (80, .newarray .int, 2, 0), (82, .putfield 35, 3, 12), (85, .aload_n 0, 1, 0), (86, .sipush 128, 3, 0), (89, .newarray .boolean, 2, 0), (91, .putfield 38, 3, 13), (94, .aload_n 0, 1, 0), (95, .sipush 128, 3, 0), (98, .newarray .int, 2, 0), (100, .putfield 41, 3, 14), (103, .aload_n 0, 1, 0), (104, .sipush 256, 3, 0), (107, .newarray .int, 2, 0), (109, .putfield 44, 3, 15), (112, .aload_n 0, 1, 0), (113, .sipush 256, 3, 0), (116, .newarray .int, 2, 0), (118, .putfield 47, 3, 16), (121, .aload_n 0, 1, 0), (122, .sipush 256, 3, 0), (125, .newarray .int, 2, 0), (127, .putfield 50, 3, 17), (130, .aload_n 0, 1, 0), (131, .aload_n 0, 1, 0), (132, .iload_n 1, 1, 0), (133, .iconst 2, 1, 0), (134, .sipush 128, 3, 0), (137, .invokevirtual 53, 3, 17), (140, .putfield 57, 3, 0), (143, .aload_n 0, 1, 0), (144, .aload_n 0, 1, 0), (145, .iload_n 2, 1, 0), (146, .iconst 1, 1, 0), (147, .bipush 8, 2, 0), (149, .invokevirtual 53, 3, 17), (152, .putfield 61, 3, 1), (155, .aload_n 0, 1, 0), (156, .aload_n 0, 1, 0), (157, .iload_n 3, 1, 0), (158, .iconst 1, 1, 0), (159, .bipush 8, 2, 0), (161, .invokevirtual 53, 3, 17), (164, .putfield 64, 3, 2), (167, .aload_n 0, 1, 0), (168, .aload_n 0, 1, 0), (169, .iload 4, 2, 0), (171, .iconst 1, 1, 0), (172, .bipush 16, 2, 0), (174, .invokevirtual 53, 3, 17), (177, .putfield 67, 3, 3), (180, .iconst 0, 1, 0), (181, .istore 5, 2, 0), (183, .iload 5, 2, 0), (185, .sipush 128, 3, 0), (188, .if_icmp .ge 74, 3, 0), (191, .aload_n 0, 1, 0), (192, .getfield 7, 3, 4), (195, .iload 5, 2, 0), (197, .iconst 0, 1, 0), (198, .iastore, 1, 0), (199, .aload_n 0, 1, 0), (200, .getfield 13, 3, 5), (203, .iload 5, 2, 0), (205, .iconst 0, 1, 0), (206, .iastore, 1, 0), (207, .aload_n 0, 1, 0), (208, .getfield 16, 3, 6), (211, .iload 5, 2, 0), (213, .iconst 0, 1, 0), (214, .iastore, 1, 0), (215, .aload_n 0, 1, 0), (216, .getfield 19, 3, 7), (219, .iload 5, 2, 0), (221, .iconst 0, 1, 0), (222, .bastore, 1, 0), (223, .aload_n 0, 1, 0), (224, .getfield 23, 3, 8), (227, .iload 5, 2, 0), (229, .iconst 0, 1, 0), (230, .bastore, 1, 0), (231, .aload_n 0, 1, 0), (232, .getfield 26, 3, 9), (235, .iload 5, 2, 0), (237, .bipush (-2), 2, 0), (239, .iastore, 1, 0), (240, .aload_n 0, 1, 0), (241, .getfield 29, 3, 10), (244, .iload 5, 2, 0), (246, .iconst (-1), 1, 0), (247, .iastore, 1, 0), (248, .aload_n 0, 1, 0), (249, .getfield 32, 3, 11), (252, .iload 5, 2, 0), (254, .iconst (-1), 1, 0), (255, .iastore, 1, 0), (256, .iinc 5 1, 3, 0), (259, .goto (-76), 3, 0), (262, .aload_n 0, 1, 0), (263, .iconst 0, 1, 0), (264, .putfield 70, 3, 18), (267, .aload_n 0, 1, 0), (268, .iconst 0, 1, 0), (269, .putfield 73, 3, 19), (272, .aload_n 0, 1, 0), (273, .iconst 0, 1, 0), (274, .putfield 76, 3, 20), (277, .aload_n 0, 1, 0), (278, .iconst 0, 1, 0), (279, .putfield 79, 3, 21), (282, .aload_n 0, 1, 0), (283, .iconst 0, 1, 0), (284, .putfield 82, 3, 22), (287, .aload_n 0, 1, 0), (288, .iconst 1, 1, 0), (289, .putfield 85, 3, 23), (292, .return_, 1, 0)]
def r2 : List Row := [(0, .aload_n 0, 1, 0), (1, .iload_n 1, 1, 0), (2, .putfield 85, 3, 23), (5, .return_, 1, 0)]
def r3 : List Row := [(0, .aload_n 0, 1, 0), (1, .aload_n 0, 1, 0), (2, .iload_n 1, 1, 0), (3, .iconst 0, 1, 0), (4, .bipush 16, 2, 0), (6, .invokevirtual 53, 3, 17), (9, .putfield 73, 3, 19), (12, .aload_n 0, 1, 0), (13, .getfield 73, 3, 19), (16, .ireturn, 1, 0)]
def r4 : List Row := [(0, .aload_n 0, 1, 0), (1, .iload_n 1, 1, 0), (2, .invokevirtual 88, 3, 18), (5, .ifCond .eq 11, 3, 0), (8, .aload_n 0, 1, 0), (9, .iload_n 2, 1, 0), (10, .invokevirtual 88, 3, 18), (13, .ifCond .ne 5, 3, 0), (16, .iconst (-1), 1, 0), (17, .ireturn, 1, 0), (18, .iload_n 1, 1, 0), (19, .iload_n 2, 1, 0), (20, .if_icmp .ne 5, 3, 0), (23, .iconst (-1), 1, 0), (24, .ireturn, 1, 0), (25, .iload_n 3, 1, 0), (26, .iconst 1, 1, 0), (27, .if_icmp .lt 10, 3, 0), (30, .iload_n 3, 1, 0), (31, .sipush 1000, 3, 0), (34, .if_icmp .le 5, 3, 0), (37, .iconst (-1), 1, 0), (38, .ireturn, 1, 0), (39, .aload_n 0, 1, 0), (40, .iload_n 1, 1, 0), (41, .iload_n 2, 1, 0), (42, .invokevirtual 92, 3, 20), (45, .ifCond .eq 5, 3, 0), (48, .iconst (-1), 1, 0), (49, .ireturn, 1, 0), (50, .aload_n 0, 1, 0), (51, .getfield 70, 3, 18), (54, .sipush 256, 3, 0), (57, .if_icmp .lt 5, 3, 0), (60, .iconst (-1), 1, 0), (61, .ireturn, 1, 0), (62, .aload_n 0, 1, 0), (63, .getfield 70, 3, 18), (66, .istore 4, 2, 0), (68, .aload_n 0, 1, 0), (69, .getfield 44, 3, 15), (72, .iload 4, 2, 0), (74, .iload_n 1, 1, 0), (75, .iastore, 1, 0), (76, .aload_n 0, 1, 0), (77, .getfield 47, 3, 16), (80, .iload 4, 2, 0), (82, .iload_n 2, 1, 0), (83, .iastore, 1, 0), (84, .aload_n 0, 1, 0), (85, .getfield 50, 3, 17), (88, .iload 4, 2, 0), (90, .iload_n 3, 1, 0), (91, .iastore, 1, 0), (92, .aload_n 0, 1, 0), (93, .iload 4, 2, 0), (95, .iconst 1, 1, 0), (96, .iadd, 1, 0), (97, .putfield 70, 3, 18), (100, .iload 4, 2, 0), (102, .ireturn, 1, 0)]
def r5 : List Row := [(0, .aload_n 0, 1, 0), (1, .iload_n 1, 1, 0), (2, .invokevirtual 88, 3, 18), (5, .ifCond .ne 5, 3, 0), (8, .iconst 0, 1, 0), (9, .ireturn, 1, 0), (10, .aload_n 0, 1, 0), (11, .getfield 7, 3, 4), (14, .iload_n 1, 1, 0), (15, .iaload, 1, 0), (16, .ifCond .eq 5, 3, 0), (19, .iconst 0, 1, 0), (20, .ireturn, 1, 0), (21, .aload_n 0, 1, 0), (22, .getfield 7, 3, 4), (25, .iload_n 1, 1, 0), (26, .iconst 2, 1, 0), (27, .iastore, 1, 0), (28, .aload_n 0, 1, 0), (29, .getfield 13, 3, 5), (32, .iload_n 1, 1, 0), (33, .aload_n 0, 1, 0), (34, .getfield 64, 3, 2), (37, .iastore, 1, 0), (38, .aload_n 0, 1, 0), (39, .getfield 26, 3, 9), (42, .iload_n 1, 1, 0), (43, .iconst (-1), 1, 0), (44, .iastore, 1, 0), (45, .aload_n 0, 1, 0), (46, .getfield 29, 3, 10), (49, .iload_n 1, 1, 0), (50, .aload_n 0, 1, 0), (51, .getfield 82, 3, 22), (54, .iastore, 1, 0), (55, .aload_n 0, 1, 0), (56, .getfield 32, 3, 11), (59, .iload_n 1, 1, 0), (60, .iconst 0, 1, 0), (61, .iastore, 1, 0), (62, .iconst 1, 1, 0), (63, .ireturn, 1, 0)]
def r6 : List Row := [(0, .aload_n 0, 1, 0), (1, .iload_n 1, 1, 0), (2, .invokevirtual 88, 3, 18), (5, .ifCond .ne 5, 3, 0), (8, .iconst 0, 1, 0), (9, .ireturn, 1, 0), (10, .aload_n 0, 1, 0), (11, .getfield 19, 3, 7), (14, .iload_n 1, 1, 0), (15, .baload, 1, 0), (16, .ifCond .ne 12, 3, 0), (19, .aload_n 0, 1, 0), (20, .getfield 23, 3, 8), (23, .iload_n 1, 1, 0), (24, .baload, 1, 0), (25, .ifCond .eq 5, 3, 0), (28, .iconst 0, 1, 0), (29, .ireturn, 1, 0), (30, .aload_n 0, 1, 0), (31, .getfield 23, 3, 8), (34, .iload_n 1, 1, 0), (35, .iconst 1, 1, 0), (36, .bastore, 1, 0), (37, .iconst 1, 1, 0), (38, .ireturn, 1, 0)]
def r7 : List Row := [(0, .aload_n 0, 1, 0), (1, .iload_n 1, 1, 0), (2, .iconst 0, 1, 0), (3, .bipush 8, 2, 0), (5, .invokevirtual 53, 3, 17), (8, .istore_n 2, 1, 0), (9, .iconst 0, 1, 0), (10, .istore_n 3, 1, 0), (11, .iload_n 3, 1, 0), (12, .iload_n 2, 1, 0), (13, .if_icmp .ge 13, 3, 0), (16, .aload_n 0, 1, 0), (17, .invokevirtual 96, 3, 21), (20, .iinc 3 1, 3, 0), (23, .goto (-12), 3, 0), (26, .aload_n 0, 1, 0), (27, .getfield 82, 3, 22), (30, .ireturn, 1, 0)]
def r8 : List Row := [(0, .aload_n 0, 1, 0), (1, .iload_n 1, 1, 0), (2, .invokevirtual 88, 3, 18), (5, .ifCond .eq 12, 3, 0), (8, .aload_n 0, 1, 0), (9, .getfield 7, 3, 4), (12, .iload_n 1, 1, 0), (13, .iaload, 1, 0), (14, .goto 4, 3, 0), (17, .iconst (-1), 1, 0), (18, .ireturn, 1, 0)]
def r10 : List Row := [(0, .aload_n 0, 1, 0), (1, .iload_n 1, 1, 0), (2, .invokevirtual 88, 3, 18), (5, .ifCond .eq 12, 3, 0), (8, .aload_n 0, 1, 0), (9, .getfield 16, 3, 6), (12, .iload_n 1, 1, 0), (13, .iaload, 1, 0), (14, .goto 4, 3, 0), (17, .iconst (-1), 1, 0), (18, .ireturn, 1, 0)]
def r12 : List Row := [(0, .aload_n 0, 1, 0), (1, .iload_n 1, 1, 0), (2, .invokevirtual 88, 3, 18), (5, .ifCond .eq 12, 3, 0), (8, .aload_n 0, 1, 0), (9, .getfield 26, 3, 9), (12, .iload_n 1, 1, 0), (13, .iaload, 1, 0), (14, .goto 5, 3, 0), (17, .bipush (-2), 2, 0), (19, .ireturn, 1, 0)]
def r13 : List Row := [(0, .aload_n 0, 1, 0), (1, .iload_n 1, 1, 0), (2, .invokevirtual 88, 3, 18), (5, .ifCond .eq 12, 3, 0), (8, .aload_n 0, 1, 0), (9, .getfield 29, 3, 10), (12, .iload_n 1, 1, 0), (13, .iaload, 1, 0), (14, .goto 4, 3, 0), (17, .iconst (-1), 1, 0), (18, .ireturn, 1, 0)]
def r14 : List Row := [(0, .aload_n 0, 1, 0), (1, .iload_n 1, 1, 0), (2, .invokevirtual 88, 3, 18), (5, .ifCond .eq 12, 3, 0), (8, .aload_n 0, 1, 0), (9, .getfield 32, 3, 11), (12, .iload_n 1, 1, 0), (13, .iaload, 1, 0), (14, .goto 4, 3, 0), (17, .iconst (-1), 1, 0), (18, .ireturn, 1, 0)]
def r15 : List Row := [(0, .aload_n 0, 1, 0), (1, .iload_n 1, 1, 0), (2, .invokevirtual 88, 3, 18), (5, .ifCond .ne 5, 3, 0), (8, .iconst (-1), 1, 0), (9, .ireturn, 1, 0), (10, .iconst 0, 1, 0), (11, .istore_n 2, 1, 0), (12, .iconst 0, 1, 0), (13, .istore_n 3, 1, 0), (14, .iload_n 3, 1, 0), (15, .aload_n 0, 1, 0), (16, .getfield 57, 3, 0), (19, .if_icmp .ge 22, 3, 0), (22, .aload_n 0, 1, 0), (23, .getfield 26, 3, 9), (26, .iload_n 3, 1, 0), (27, .iaload, 1, 0), (28, .iload_n 1, 1, 0), (29, .if_icmp .ne 6, 3, 0), (32, .iinc 2 1, 3, 0), (35, .iinc 3 1, 3, 0), (38, .goto (-24), 3, 0), (41, .iload_n 2, 1, 0), (42, .ireturn, 1, 0)]
def r16 : List Row := [(0, .iload_n 1, 1, 0), (1, .ifCond .lt 14, 3, 0), (4, .iload_n 1, 1, 0), (5, .iconst 3, 1, 0), (6, .if_icmp .gt 9, 3, 0), (9, .aload_n 0, 1, 0), (10, .iload_n 1, 1, 0), (11, .invokevirtual 99, 3, 31), (14, .ireturn, 1, 0), (15, .iload_n 1, 1, 0), (16, .tableswitch 90 4 11 #[48, 53, 59, 65, 70, 75, 80, 85], 48, 0), (64, .aload_n 0, 1, 0), (68, .ireturn, 1, 0), (69, .aload_n 0, 1, 0), (70, .iconst 1, 1, 0), (74, .ireturn, 1, 0), (75, .aload_n 0, 1, 0), (76, .iconst 0, 1, 0), (80, .ireturn, 1, 0), (81, .aload_n 0, 1, 0), (82, .getfield 76, 3, 20), (85, .ireturn, 1, 0), (86, .aload_n 0, 1, 0), (87, .getfield 79, 3, 21), (90, .ireturn, 1, 0), (91, .aload_n 0, 1, 0), (92, .getfield 70, 3, 18), (95, .ireturn, 1, 0), (96, .aload_n 0, 1, 0), (97, .getfield 82, 3, 22), (100, .ireturn, 1, 0), (101, .aload_n 0, 1, 0), (102, .invokevirtual 111, 3, 34), (105, .ireturn, 1, 0), (106, .iconst (-1), 1, 0), (107, .ireturn, 1, 0)]
def r17 : List Row := [(0, .iload_n 1, 1, 0), (1, .iload_n 2, 1, 0), (2, .if_icmp .ge 5, 3, 0), (5, .iload_n 2, 1, 0), (6, .ireturn, 1, 0), (7, .iload_n 1, 1, 0), (8, .iload_n 3, 1, 0), (9, .if_icmp .le 5, 3, 0), (12, .iload_n 3, 1, 0), (13, .ireturn, 1, 0), (14, .iload_n 1, 1, 0), (15, .ireturn, 1, 0)]
def r18 : List Row := [(0, .iload_n 1, 1, 0), (1, .ifCond .lt 15, 3, 0), (4, .iload_n 1, 1, 0), (5, .aload_n 0, 1, 0), (6, .getfield 57, 3, 0), (9, .if_icmp .ge 7, 3, 0), (12, .iconst 1, 1, 0), (13, .goto 4, 3, 0), (16, .iconst 0, 1, 0), (17, .ireturn, 1, 0)]
def r19 : List Row := [(0, .aload_n 0, 1, 0), (1, .aload_n 0, 1, 0), (2, .getfield 85, 3, 23), (5, .ldc 114, 2, 1103515245), (7, .imul, 1, 0), (8, .sipush 12345, 3, 0), (11, .iadd, 1, 0), (12, .putfield 85, 3, 23), (15, .aload_n 0, 1, 0), (16, .getfield 85, 3, 23), (19, .bipush 8, 2, 0), (21, .iushr, 1, 0), (22, .ldc 115, 2, 16777215), (24, .iand, 1, 0), (25, .sipush 1000, 3, 0), (28, .irem, 1, 0), (29, .ireturn, 1, 0)]
def r20 : List Row := [(0, .iconst 0, 1, 0), (1, .istore_n 3, 1, 0), (2, .iload_n 3, 1, 0), (3, .aload_n 0, 1, 0), (4, .getfield 70, 3, 18), (7, .if_icmp .ge 51, 3, 0), (10, .aload_n 0, 1, 0), (11, .getfield 44, 3, 15), (14, .iload_n 3, 1, 0), (15, .iaload, 1, 0), (16, .istore 4, 2, 0), (18, .aload_n 0, 1, 0), (19, .getfield 47, 3, 16), (22, .iload_n 3, 1, 0), (23, .iaload, 1, 0), (24, .istore 5, 2, 0), (26, .iload 4, 2, 0), (28, .iload_n 1, 1, 0), (29, .if_icmp .ne 9, 3, 0), (32, .iload 5, 2, 0), (34, .iload_n 2, 1, 0), (35, .if_icmp .eq 15, 3, 0), (38, .iload 4, 2, 0), (40, .iload_n 2, 1, 0), (41, .if_icmp .ne 11, 3, 0), (44, .iload 5, 2, 0), (46, .iload_n 1, 1, 0), (47, .if_icmp .ne 5, 3, 0), (50, .iconst 1, 1, 0), (51, .ireturn, 1, 0), (52, .iinc 3 1, 3, 0), (55, .goto (-53), 3, 0), (58, .iconst 0, 1, 0), (59, .ireturn, 1, 0)]
def r21 : List Row := [(0, .aload_n 0, 1, 0), (1, .invokevirtual 116, 3, 22), (4, .aload_n 0, 1, 0), (5, .invokevirtual 119, 3, 24), (8, .aload_n 0, 1, 0), (9, .invokevirtual 122, 3, 26), (12, .aload_n 0, 1, 0), (13, .invokevirtual 125, 3, 27), (16, .aload_n 0, 1, 0), (17, .invokevirtual 128, 3, 28), (20, .aload_n 0, 1, 0), (21, .aload_n 0, 1, 0), (22, .getfield 82, 3, 22), (25, .iconst 1, 1, 0), (26, .iadd, 1, 0), (27, .putfield 82, 3, 22), (30, .return_, 1, 0)]
def r22 : List Row := [(0, .iconst 0, 1, 0), (1, .istore_n 1, 1, 0), (2, .iload_n 1, 1, 0), (3, .aload_n 0, 1, 0), (4, .getfield 57, 3, 0), (7, .if_icmp .ge 41, 3, 0), (10, .aload_n 0, 1, 0), (11, .getfield 35, 3, 12), (14, .iload_n 1, 1, 0), (15, .aload_n 0, 1, 0), (16, .getfield 7, 3, 4), (19, .iload_n 1, 1, 0), (20, .iaload, 1, 0), (21, .iastore, 1, 0), (22, .aload_n 0, 1, 0), (23, .getfield 38, 3, 13), (26, .iload_n 1, 1, 0), (27, .aload_n 0, 1, 0), (28, .getfield 16, 3, 6), (31, .iload_n 1, 1, 0), (32, .iaload, 1, 0), (33, .ifCond .le 7, 3, 0), (36, .iconst 1, 1, 0), (37, .goto 4, 3, 0), (40, .iconst 0, 1, 0), (41, .bastore, 1, 0), (42, .iinc 1 1, 3, 0), (45, .goto (-43), 3, 0), (48, .return_, 1, 0)]
def r23 : List Row := [(0, .aload_n 0, 1, 0), (1, .getfield 35, 3, 12), (4, .iload_n 1, 1, 0), (5, .iaload, 1, 0), (6, .iconst 2, 1, 0), (7, .if_icmp .ne 34, 3, 0), (10, .aload_n 0, 1, 0), (11, .getfield 38, 3, 13), (14, .iload_n 1, 1, 0), (15, .baload, 1, 0), (16, .ifCond .ne 25, 3, 0), (19, .aload_n 0, 1, 0), (20, .getfield 35, 3, 12), (23, .iload_n 2, 1, 0), (24, .iaload, 1, 0), (25, .ifCond .ne 16, 3, 0), (28, .aload_n 0, 1, 0), (29, .getfield 38, 3, 13), (32, .iload_n 2, 1, 0), (33, .baload, 1, 0), (34, .ifCond .ne 7, 3, 0), (37, .iconst 1, 1, 0), (38, .goto 4, 3, 0), (41, .iconst 0, 1, 0), (42, .ireturn, 1, 0)]
def r24 : List Row := [(0, .iconst 0, 1, 0), (1, .istore_n 1, 1, 0), (2, .iload_n 1, 1, 0), (3, .aload_n 0, 1, 0), (4, .getfield 70, 3, 18), (7, .if_icmp .ge 68, 3, 0), (10, .aload_n 0, 1, 0), (11, .getfield 44, 3, 15), (14, .iload_n 1, 1, 0), (15, .iaload, 1, 0), (16, .istore_n 2, 1, 0), (17, .aload_n 0, 1, 0), (18, .getfield 47, 3, 16), (21, .iload_n 1, 1, 0), (22, .iaload, 1, 0), (23, .istore_n 3, 1, 0), (24, .aload_n 0, 1, 0), (25, .iload_n 2, 1, 0), (26, .iload_n 3, 1, 0), (27, .invokevirtual 131, 3, 23), (30, .ifCond .eq 18, 3, 0), (33, .aload_n 0, 1, 0), (34, .iload_n 2, 1, 0), (35, .iload_n 3, 1, 0), (36, .aload_n 0, 1, 0), (37, .getfield 50, 3, 17), (40, .iload_n 1, 1, 0), (41, .iaload, 1, 0), (42, .invokevirtual 134, 3, 25), (45, .goto 24, 3, 0), (48, .aload_n 0, 1, 0), (49, .iload_n 3, 1, 0), (50, .iload_n 2, 1, 0), (51, .invokevirtual 131, 3, 23), (54, .ifCond .eq 15, 3, 0), (57, .aload_n 0, 1, 0), (58, .iload_n 3, 1, 0), (59, .iload_n 2, 1, 0), (60, .aload_n 0, 1, 0), (61, .getfield 50, 3, 17), (64, .iload_n 1, 1, 0), (65, .iaload, 1, 0), (66, .invokevirtual 134, 3, 25), (69, .iinc 1 1, 3, 0), (72, .goto (-70), 3, 0), (75, .return_, 1, 0)]
def r25 : List Row := [(0, .aload_n 0, 1, 0), (1, .invokevirtual 138, 3, 19), (4, .istore 4, 2, 0), (6, .iload 4, 2, 0), (8, .iload_n 3, 1, 0), (9, .if_icmp .ge 62, 3, 0), (12, .aload_n 0, 1, 0), (13, .getfield 7, 3, 4), (16, .iload_n 2, 1, 0), (17, .iaload, 1, 0), (18, .ifCond .ne 53, 3, 0), (21, .aload_n 0, 1, 0), (22, .getfield 7, 3, 4), (25, .iload_n 2, 1, 0), (26, .iconst 1, 1, 0), (27, .iastore, 1, 0), (28, .aload_n 0, 1, 0), (29, .getfield 13, 3, 5), (32, .iload_n 2, 1, 0), (33, .aload_n 0, 1, 0), (34, .getfield 61, 3, 1), (37, .iastore, 1, 0), (38, .aload_n 0, 1, 0), (39, .getfield 26, 3, 9), (42, .iload_n 2, 1, 0), (43, .iload_n 1, 1, 0), (44, .iastore, 1, 0), (45, .aload_n 0, 1, 0), (46, .getfield 29, 3, 10), (49, .iload_n 2, 1, 0), (50, .aload_n 0, 1, 0), (51, .getfield 82, 3, 22), (54, .iconst 1, 1, 0), (55, .iadd, 1, 0), (56, .iastore, 1, 0), (57, .aload_n 0, 1, 0), (58, .getfield 32, 3, 11), (61, .iload_n 2, 1, 0), (62, .aload_n 0, 1, 0), (63, .getfield 32, 3, 11), (66, .iload_n 1, 1, 0), (67, .iaload, 1, 0), (68, .iconst 1, 1, 0), (69, .iadd, 1, 0), (70, .iastore, 1, 0), (71, .return_, 1, 0)]
def r26 : List Row := [(0, .iconst 0, 1, 0), (1, .istore_n 1, 1, 0), (2, .iload_n 1, 1, 0), (3, .aload_n 0, 1, 0), (4, .getfield 57, 3, 0), (7, .if_icmp .ge 102, 3, 0), (10, .aload_n 0, 1, 0), (11, .getfield 35, 3, 12), (14, .iload_n 1, 1, 0), (15, .iaload, 1, 0), (16, .iconst 1, 1, 0), (17, .if_icmp .ne 46, 3, 0), (20, .aload_n 0, 1, 0), (21, .getfield 13, 3, 5), (24, .iload_n 1, 1, 0), (25, .aload_n 0, 1, 0), (26, .getfield 13, 3, 5), (29, .iload_n 1, 1, 0), (30, .iaload, 1, 0), (31, .iconst 1, 1, 0), (32, .isub, 1, 0), (33, .iastore, 1, 0), (34, .aload_n 0, 1, 0), (35, .getfield 13, 3, 5), (38, .iload_n 1, 1, 0), (39, .iaload, 1, 0), (40, .ifCond .ne 63, 3, 0), (43, .aload_n 0, 1, 0), (44, .getfield 7, 3, 4), (47, .iload_n 1, 1, 0), (48, .iconst 2, 1, 0), (49, .iastore, 1, 0), (50, .aload_n 0, 1, 0), (51, .getfield 13, 3, 5), (54, .iload_n 1, 1, 0), (55, .aload_n 0, 1, 0), (56, .getfield 64, 3, 2), (59, .iastore, 1, 0), (60, .goto 43, 3, 0), (63, .aload_n 0, 1, 0), (64, .getfield 35, 3, 12), (67, .iload_n 1, 1, 0), (68, .iaload, 1, 0), (69, .iconst 2, 1, 0), (70, .if_icmp .ne 33, 3, 0), (73, .aload_n 0, 1, 0), (74, .getfield 13, 3, 5), (77, .iload_n 1, 1, 0), (78, .aload_n 0, 1, 0), (79, .getfield 13, 3, 5), (82, .iload_n 1, 1, 0), (83, .iaload, 1, 0), (84, .iconst 1, 1, 0), (85, .isub, 1, 0), (86, .iastore, 1, 0), (87, .aload_n 0, 1, 0), (88, .getfield 13, 3, 5), (91, .iload_n 1, 1, 0), (92, .iaload, 1, 0), (93, .ifCond .ne 10, 3, 0), (96, .aload_n 0, 1, 0), (97, .getfield 7, 3, 4), (100, .iload_n 1, 1, 0), (101, .iconst 3, 1, 0), (102, .iastore, 1, 0), (103, .iinc 1 1, 3, 0), (106, .goto (-104), 3, 0), (109, .return_, 1, 0)]
def r27 : List Row := [(0, .iconst 0, 1, 0), (1, .istore_n 1, 1, 0), (2, .iload_n 1, 1, 0), (3, .aload_n 0, 1, 0), (4, .getfield 57, 3, 0), (7, .if_icmp .ge 32, 3, 0), (10, .aload_n 0, 1, 0), (11, .getfield 16, 3, 6), (14, .iload_n 1, 1, 0), (15, .iaload, 1, 0), (16, .ifCond .le 17, 3, 0), (19, .aload_n 0, 1, 0), (20, .getfield 16, 3, 6), (23, .iload_n 1, 1, 0), (24, .aload_n 0, 1, 0), (25, .getfield 16, 3, 6), (28, .iload_n 1, 1, 0), (29, .iaload, 1, 0), (30, .iconst 1, 1, 0), (31, .isub, 1, 0), (32, .iastore, 1, 0), (33, .iinc 1 1, 3, 0), (36, .goto (-34), 3, 0), (39, .return_, 1, 0)]
def r28 : List Row := [(0, .iconst 0, 1, 0), (1, .istore_n 1, 1, 0), (2, .iconst 0, 1, 0), (3, .istore_n 2, 1, 0), (4, .iload_n 2, 1, 0), (5, .aload_n 0, 1, 0), (6, .getfield 57, 3, 0), (9, .if_icmp .ge 36, 3, 0), (12, .iload_n 1, 1, 0), (13, .aload_n 0, 1, 0), (14, .getfield 73, 3, 19), (17, .if_icmp .ge 28, 3, 0), (20, .aload_n 0, 1, 0), (21, .getfield 23, 3, 8), (24, .iload_n 2, 1, 0), (25, .baload, 1, 0), (26, .ifCond .eq 13, 3, 0), (29, .aload_n 0, 1, 0), (30, .getfield 41, 3, 14), (33, .iload_n 1, 1, 0), (34, .iload_n 2, 1, 0), (35, .iastore, 1, 0), (36, .iinc 1 1, 3, 0), (39, .iinc 2 1, 3, 0), (42, .goto (-38), 3, 0), (45, .iconst 0, 1, 0), (46, .istore_n 2, 1, 0), (47, .iload_n 2, 1, 0), (48, .iload_n 1, 1, 0), (49, .if_icmp .ge 19, 3, 0), (52, .aload_n 0, 1, 0), (53, .aload_n 0, 1, 0), (54, .getfield 41, 3, 14), (57, .iload_n 2, 1, 0), (58, .iaload, 1, 0), (59, .invokevirtual 141, 3, 29), (62, .iinc 2 1, 3, 0), (65, .goto (-18), 3, 0), (68, .return_, 1, 0)]
def r29 : List Row := [(0, .aload_n 0, 1, 0), (1, .getfield 23, 3, 8), (4, .iload_n 1, 1, 0), (5, .iconst 0, 1, 0), (6, .bastore, 1, 0), (7, .aload_n 0, 1, 0), (8, .aload_n 0, 1, 0), (9, .getfield 76, 3, 20), (12, .iconst 1, 1, 0), (13, .iadd, 1, 0), (14, .putfield 76, 3, 20), (17, .aload_n 0, 1, 0), (18, .getfield 7, 3, 4), (21, .iload_n 1, 1, 0), (22, .iaload, 1, 0), (23, .iconst 2, 1, 0), (24, .if_icmp .eq 4, 3, 0), (27, .return_, 1, 0), (28, .aload_n 0, 1, 0), (29, .aload_n 0, 1, 0), (30, .getfield 79, 3, 21), (33, .iconst 1, 1, 0), (34, .iadd, 1, 0), (35, .putfield 79, 3, 21), (38, .aload_n 0, 1, 0), (39, .getfield 19, 3, 7), (42, .iload_n 1, 1, 0), (43, .iconst 1, 1, 0), (44, .bastore, 1, 0), (45, .aload_n 0, 1, 0), (46, .getfield 16, 3, 6), (49, .iload_n 1, 1, 0), (50, .aload_n 0, 1, 0), (51, .getfield 67, 3, 3), (54, .iastore, 1, 0), (55, .aload_n 0, 1, 0), (56, .iload_n 1, 1, 0), (57, .invokevirtual 145, 3, 30), (60, .return_, 1, 0)]
def r30 : List Row := [(0, .iconst 0, 1, 0), (1, .istore_n 2, 1, 0), (2, .iload_n 2, 1, 0), (3, .aload_n 0, 1, 0), (4, .getfield 70, 3, 18), (7, .if_icmp .ge 88, 3, 0), (10, .iconst (-1), 1, 0), (11, .istore_n 3, 1, 0), (12, .aload_n 0, 1, 0), (13, .getfield 44, 3, 15), (16, .iload_n 2, 1, 0), (17, .iaload, 1, 0), (18, .iload_n 1, 1, 0), (19, .if_icmp .ne 13, 3, 0), (22, .aload_n 0, 1, 0), (23, .getfield 47, 3, 16), (26, .iload_n 2, 1, 0), (27, .iaload, 1, 0), (28, .istore_n 3, 1, 0), (29, .goto 20, 3, 0), (32, .aload_n 0, 1, 0), (33, .getfield 47, 3, 16), (36, .iload_n 2, 1, 0), (37, .iaload, 1, 0), (38, .iload_n 1, 1, 0), (39, .if_icmp .ne 10, 3, 0), (42, .aload_n 0, 1, 0), (43, .getfield 44, 3, 15), (46, .iload_n 2, 1, 0), (47, .iaload, 1, 0), (48, .istore_n 3, 1, 0), (49, .iload_n 3, 1, 0), (50, .ifCond .lt 39, 3, 0), (53, .aload_n 0, 1, 0), (54, .getfield 7, 3, 4), (57, .iload_n 3, 1, 0), (58, .iaload, 1, 0), (59, .iconst 3, 1, 0), (60, .if_icmp .eq 29, 3, 0), (63, .aload_n 0, 1, 0), (64, .getfield 19, 3, 7), (67, .iload_n 3, 1, 0), (68, .baload, 1, 0), (69, .ifCond .ne 20, 3, 0), (72, .aload_n 0, 1, 0), (73, .getfield 16, 3, 6), (76, .iload_n 3, 1, 0), (77, .aload_n 0, 1, 0), (78, .getfield 67, 3, 3), (81, .iastore, 1, 0), (82, .aload_n 0, 1, 0), (83, .getfield 23, 3, 8), (86, .iload_n 3, 1, 0), (87, .iconst 1, 1, 0), (88, .bastore, 1, 0), (89, .iinc 2 1, 3, 0), (92, .goto (-90), 3, 0), (95, .return_, 1, 0)]
def r31 : List Row := [(0, .iconst 0, 1, 0), (1, .istore_n 2, 1, 0), (2, .iconst 0, 1, 0), (3, .istore_n 3, 1, 0), (4, .iload_n 3, 1, 0), (5, .aload_n 0, 1, 0), (6, .getfield 57, 3, 0), (9, .if_icmp .ge 22, 3, 0), (12, .aload_n 0, 1, 0), (13, .getfield 7, 3, 4), (16, .iload_n 3, 1, 0), (17, .iaload, 1, 0), (18, .iload_n 1, 1, 0), (19, .if_icmp .ne 6, 3, 0), (22, .iinc 2 1, 3, 0), (25, .iinc 3 1, 3, 0), (28, .goto (-24), 3, 0), (31, .iload_n 2, 1, 0), (32, .ireturn, 1, 0)]
def r34 : List Row := [(0, .iconst 0, 1, 0), (1, .istore_n 1, 1, 0), (2, .iconst 0, 1, 0), (3, .istore_n 2, 1, 0), (4, .iload_n 2, 1, 0), (5, .aload_n 0, 1, 0), (6, .getfield 57, 3, 0), (9, .if_icmp .ge 23, 3, 0), (12, .aload_n 0, 1, 0), (13, .getfield 26, 3, 9), (16, .iload_n 2, 1, 0), (17, .iaload, 1, 0), (18, .bipush (-2), 2, 0), (20, .if_icmp .eq 6, 3, 0), (23, .iinc 1 1, 3, 0), (26, .iinc 2 1, 3, 0), (29, .goto (-25), 3, 0), (32, .iload_n 1, 1, 0), (33, .ireturn, 1, 0)]
def prows : List (List Row) := [[], r1, r2, r3, r4, r5, r6, r7, r8, [], r10, [], r12, r13, r14, r15, r16, r17, r18, r19, r20, r21, r22, r23, r24, r25, r26, r27, r28, r29, r30, r31, [], [], r34]
def pinfo : List MInfo := [(0, 0, 9, none, {}), (5, 6, 3, none, { frames := 1, cells := 14, slots := 2176, locals := 16 }), (2, 2, 1, none, { frames := 0, cells := 0, slots := 0, locals := 0 }), (2, 2, 1, some .int, { frames := 1, cells := 0, slots := 0, locals := 16 }), (4, 5, 1, some .int, { frames := 1, cells := 0, slots := 0, locals := 17 }), (2, 2, 1, some .boolean, { frames := 1, cells := 0, slots := 0, locals := 13 }), (2, 2, 1, some .boolean, { frames := 1, cells := 0, slots := 0, locals := 13 }), (2, 4, 1, some .int, { frames := 4, cells := 0, slots := 0, locals := 55 }), (2, 2, 1, some .int, { frames := 1, cells := 0, slots := 0, locals := 13 }), (2, 2, 1, some .int, { frames := 1, cells := 0, slots := 0, locals := 13 }), (2, 2, 1, some .int, { frames := 1, cells := 0, slots := 0, locals := 13 }), (2, 3, 1, some .int, { frames := 1, cells := 0, slots := 0, locals := 13 }), (2, 2, 1, some .int, { frames := 1, cells := 0, slots := 0, locals := 13 }), (2, 2, 1, some .int, { frames := 1, cells := 0, slots := 0, locals := 13 }), (2, 2, 1, some .int, { frames := 1, cells := 0, slots := 0, locals := 13 }), (2, 4, 1, some .int, { frames := 1, cells := 0, slots := 0, locals := 13 }), (2, 2, 1, some .int, { frames := 1, cells := 0, slots := 0, locals := 16 }), (4, 4, 2, some .int, { frames := 0, cells := 0, slots := 0, locals := 0 }), (2, 2, 2, some .boolean, { frames := 0, cells := 0, slots := 0, locals := 0 }), (1, 1, 2, some .int, { frames := 0, cells := 0, slots := 0, locals := 0 }), (3, 6, 2, some .boolean, { frames := 0, cells := 0, slots := 0, locals := 0 }), (1, 1, 2, none, { frames := 3, cells := 0, slots := 0, locals := 43 }), (1, 2, 2, none, { frames := 0, cells := 0, slots := 0, locals := 0 }), (3, 3, 2, some .boolean, { frames := 0, cells := 0, slots := 0, locals := 0 }), (1, 4, 2, none, { frames := 2, cells := 0, slots := 0, locals := 28 }), (4, 5, 2, none, { frames := 1, cells := 0, slots := 0, locals := 12 }), (1, 2, 2, none, { frames := 0, cells := 0, slots := 0, locals := 0 }), (1, 2, 2, none, { frames := 0, cells := 0, slots := 0, locals := 0 }), (1, 3, 2, none, { frames := 2, cells := 0, slots := 0, locals := 28 }), (2, 2, 2, none, { frames := 1, cells := 0, slots := 0, locals := 15 }), (2, 4, 2, none, { frames := 0, cells := 0, slots := 0, locals := 0 }), (2, 4, 2, some .int, { frames := 0, cells := 0, slots := 0, locals := 0 }), (1, 3, 2, some .int, { frames := 0, cells := 0, slots := 0, locals := 0 }), (2, 5, 2, some .int, { frames := 0, cells := 0, slots := 0, locals := 0 }), (1, 3, 2, some .int, { frames := 0, cells := 0, slots := 0, locals := 0 })]
def pft : List FieldType := [.int, .int, .int, .int, .array .int, .array .int, .array .int, .array .boolean, .array .boolean, .array .int, .array .int, .array .int, .array .int, .array .boolean, .array .int, .array .int, .array .int, .array .int, .int, .int, .int, .int, .int, .int]
def pj (lw : LW) : Prog := (fun m pc => if m < 100 then (prows.getD m []).lookup pc else lw.1 (m - 100) pc, fun m => if m < 100 then pinfo.getD m (0, 0, 9, none, {}) else lw.2 (m - 100), fun k => pft.getD k .int, 24)
def lay : Lay := ([(.int, 0), (.int, 0), (.int, 0), (.int, 0), (.array .int, 1), (.array .int, 2), (.array .int, 3), (.array .boolean, 4), (.array .boolean, 5), (.array .int, 6), (.array .int, 7), (.array .int, 8), (.array .int, 9), (.array .boolean, 10), (.array .int, 11), (.array .int, 12), (.array .int, 13), (.array .int, 14), (.int, 0), (.int, 0), (.int, 0), (.int, 0), (.int, 0), (.int, 0)], [(.int, 128), (.int, 128), (.int, 128), (.boolean, 128), (.boolean, 128), (.int, 128), (.int, 128), (.int, 128), (.int, 128), (.boolean, 128), (.int, 128), (.int, 256), (.int, 256), (.int, 256)])
abbrev ob (H : AH) (p : Nat) (s : St) : AH := put lay 14 H p s
section Acc
variable {H : AH} {p : Nat} {s : St} {i : Int32} {j q : Nat} {v : Int32} {w : Int64}
theorem g0 : fld (put lay j H p s) p 0 = .int (sI s 0) := fld_I (ty := .int) rfl (by decide) (by simp)
theorem s0 : wr (put lay j H p s) p 0 (.int v) = put lay j H p (uI s 0 v) := wr_I (ty := .int) rfl (by decide) (by simp)
theorem g1 : fld (put lay j H p s) p 1 = .int (sI s 1) := fld_I (ty := .int) rfl (by decide) (by simp)
theorem s1 : wr (put lay j H p s) p 1 (.int v) = put lay j H p (uI s 1 v) := wr_I (ty := .int) rfl (by decide) (by simp)
theorem g2 : fld (put lay j H p s) p 2 = .int (sI s 2) := fld_I (ty := .int) rfl (by decide) (by simp)
theorem s2 : wr (put lay j H p s) p 2 (.int v) = put lay j H p (uI s 2 v) := wr_I (ty := .int) rfl (by decide) (by simp)
theorem g3 : fld (put lay j H p s) p 3 = .int (sI s 3) := fld_I (ty := .int) rfl (by decide) (by simp)
theorem s3 : wr (put lay j H p s) p 3 (.int v) = put lay j H p (uI s 3 v) := wr_I (ty := .int) rfl (by decide) (by simp)
theorem g4 : fld (ob H p s) p 4 = .ref (p + 1) := fld_R (ty := .int) rfl (by decide)
theorem g5 : fld (ob H p s) p 5 = .ref (p + 2) := fld_R (ty := .int) rfl (by decide)
theorem g6 : fld (ob H p s) p 6 = .ref (p + 3) := fld_R (ty := .int) rfl (by decide)
theorem g7 : fld (ob H p s) p 7 = .ref (p + 4) := fld_R (ty := .boolean) rfl (by decide)
theorem g8 : fld (ob H p s) p 8 = .ref (p + 5) := fld_R (ty := .boolean) rfl (by decide)
theorem g9 : fld (ob H p s) p 9 = .ref (p + 6) := fld_R (ty := .int) rfl (by decide)
theorem g10 : fld (ob H p s) p 10 = .ref (p + 7) := fld_R (ty := .int) rfl (by decide)
theorem g11 : fld (ob H p s) p 11 = .ref (p + 8) := fld_R (ty := .int) rfl (by decide)
theorem g12 : fld (ob H p s) p 12 = .ref (p + 9) := fld_R (ty := .int) rfl (by decide)
theorem g13 : fld (ob H p s) p 13 = .ref (p + 10) := fld_R (ty := .boolean) rfl (by decide)
theorem g14 : fld (ob H p s) p 14 = .ref (p + 11) := fld_R (ty := .int) rfl (by decide)
theorem g15 : fld (ob H p s) p 15 = .ref (p + 12) := fld_R (ty := .int) rfl (by decide)
theorem g16 : fld (ob H p s) p 16 = .ref (p + 13) := fld_R (ty := .int) rfl (by decide)
theorem g17 : fld (ob H p s) p 17 = .ref (p + 14) := fld_R (ty := .int) rfl (by decide)
theorem g18 : fld (put lay j H p s) p 18 = .int (sI s 18) := fld_I (ty := .int) rfl (by decide) (by simp)
theorem s18 : wr (put lay j H p s) p 18 (.int v) = put lay j H p (uI s 18 v) := wr_I (ty := .int) rfl (by decide) (by simp)
theorem g19 : fld (put lay j H p s) p 19 = .int (sI s 19) := fld_I (ty := .int) rfl (by decide) (by simp)
theorem s19 : wr (put lay j H p s) p 19 (.int v) = put lay j H p (uI s 19 v) := wr_I (ty := .int) rfl (by decide) (by simp)
theorem g20 : fld (put lay j H p s) p 20 = .int (sI s 20) := fld_I (ty := .int) rfl (by decide) (by simp)
theorem s20 : wr (put lay j H p s) p 20 (.int v) = put lay j H p (uI s 20 v) := wr_I (ty := .int) rfl (by decide) (by simp)
theorem g21 : fld (put lay j H p s) p 21 = .int (sI s 21) := fld_I (ty := .int) rfl (by decide) (by simp)
theorem s21 : wr (put lay j H p s) p 21 (.int v) = put lay j H p (uI s 21 v) := wr_I (ty := .int) rfl (by decide) (by simp)
theorem g22 : fld (put lay j H p s) p 22 = .int (sI s 22) := fld_I (ty := .int) rfl (by decide) (by simp)
theorem s22 : wr (put lay j H p s) p 22 (.int v) = put lay j H p (uI s 22 v) := wr_I (ty := .int) rfl (by decide) (by simp)
theorem g23 : fld (put lay j H p s) p 23 = .int (sI s 23) := fld_I (ty := .int) rfl (by decide) (by simp)
theorem s23 : wr (put lay j H p s) p 23 (.int v) = put lay j H p (uI s 23 v) := wr_I (ty := .int) rfl (by decide) (by simp)
theorem ai1 : inA (ob H p s) (p + 1) .int i = true ↔ (0 ≤ i.toInt ∧ i.toInt < 128) := inA_I (t := 0) rfl (by decide) (by decide)
theorem aw1 : inAw (ob H p s) (p + 1) .int i = true ↔ (0 ≤ i.toInt ∧ i.toInt < 128) := inAw_I (t := 0) rfl (by decide) (by decide)
theorem ae1 : elt (ob H p s) (p + 1) i = .int (sA s 1 i.toNatClampNeg) := elt_I (t := 0) (ty := .int) rfl (by decide) (by decide)
theorem as1 : wr (ob H p s) (p + 1) q (.int v) = ob H p (uA s 1 q v) := wr_A (t := 0) (ty := .int) rfl (by decide) (by decide)
theorem ai2 : inA (ob H p s) (p + 2) .int i = true ↔ (0 ≤ i.toInt ∧ i.toInt < 128) := inA_I (t := 1) rfl (by decide) (by decide)
theorem aw2 : inAw (ob H p s) (p + 2) .int i = true ↔ (0 ≤ i.toInt ∧ i.toInt < 128) := inAw_I (t := 1) rfl (by decide) (by decide)
theorem ae2 : elt (ob H p s) (p + 2) i = .int (sA s 2 i.toNatClampNeg) := elt_I (t := 1) (ty := .int) rfl (by decide) (by decide)
theorem as2 : wr (ob H p s) (p + 2) q (.int v) = ob H p (uA s 2 q v) := wr_A (t := 1) (ty := .int) rfl (by decide) (by decide)
theorem ai3 : inA (ob H p s) (p + 3) .int i = true ↔ (0 ≤ i.toInt ∧ i.toInt < 128) := inA_I (t := 2) rfl (by decide) (by decide)
theorem aw3 : inAw (ob H p s) (p + 3) .int i = true ↔ (0 ≤ i.toInt ∧ i.toInt < 128) := inAw_I (t := 2) rfl (by decide) (by decide)
theorem ae3 : elt (ob H p s) (p + 3) i = .int (sA s 3 i.toNatClampNeg) := elt_I (t := 2) (ty := .int) rfl (by decide) (by decide)
theorem as3 : wr (ob H p s) (p + 3) q (.int v) = ob H p (uA s 3 q v) := wr_A (t := 2) (ty := .int) rfl (by decide) (by decide)
theorem ai4 : inA (ob H p s) (p + 4) .boolean i = true ↔ (0 ≤ i.toInt ∧ i.toInt < 128) := inA_I (t := 3) rfl (by decide) (by decide)
theorem aw4 : inAw (ob H p s) (p + 4) .boolean i = true ↔ (0 ≤ i.toInt ∧ i.toInt < 128) := inAw_I (t := 3) rfl (by decide) (by decide)
theorem ain4 : inA (ob H p s) (p + 4) .byte i = true ↔ False := inA_no (t := 3) (ty := .boolean) rfl (by decide) (by decide) (by decide)
theorem awn4 : inAw (ob H p s) (p + 4) .byte i = true ↔ False := inAw_no (t := 3) (ty := .boolean) rfl (by decide) (by decide) (by decide)
theorem ae4 : elt (ob H p s) (p + 4) i = .int (sA s 4 i.toNatClampNeg) := elt_I (t := 3) (ty := .boolean) rfl (by decide) (by decide)
theorem as4 : wr (ob H p s) (p + 4) q (.int v) = ob H p (uA s 4 q v) := wr_A (t := 3) (ty := .boolean) rfl (by decide) (by decide)
theorem ai5 : inA (ob H p s) (p + 5) .boolean i = true ↔ (0 ≤ i.toInt ∧ i.toInt < 128) := inA_I (t := 4) rfl (by decide) (by decide)
theorem aw5 : inAw (ob H p s) (p + 5) .boolean i = true ↔ (0 ≤ i.toInt ∧ i.toInt < 128) := inAw_I (t := 4) rfl (by decide) (by decide)
theorem ain5 : inA (ob H p s) (p + 5) .byte i = true ↔ False := inA_no (t := 4) (ty := .boolean) rfl (by decide) (by decide) (by decide)
theorem awn5 : inAw (ob H p s) (p + 5) .byte i = true ↔ False := inAw_no (t := 4) (ty := .boolean) rfl (by decide) (by decide) (by decide)
theorem ae5 : elt (ob H p s) (p + 5) i = .int (sA s 5 i.toNatClampNeg) := elt_I (t := 4) (ty := .boolean) rfl (by decide) (by decide)
theorem as5 : wr (ob H p s) (p + 5) q (.int v) = ob H p (uA s 5 q v) := wr_A (t := 4) (ty := .boolean) rfl (by decide) (by decide)
theorem ai6 : inA (ob H p s) (p + 6) .int i = true ↔ (0 ≤ i.toInt ∧ i.toInt < 128) := inA_I (t := 5) rfl (by decide) (by decide)
theorem aw6 : inAw (ob H p s) (p + 6) .int i = true ↔ (0 ≤ i.toInt ∧ i.toInt < 128) := inAw_I (t := 5) rfl (by decide) (by decide)
theorem ae6 : elt (ob H p s) (p + 6) i = .int (sA s 6 i.toNatClampNeg) := elt_I (t := 5) (ty := .int) rfl (by decide) (by decide)
theorem as6 : wr (ob H p s) (p + 6) q (.int v) = ob H p (uA s 6 q v) := wr_A (t := 5) (ty := .int) rfl (by decide) (by decide)
theorem ai7 : inA (ob H p s) (p + 7) .int i = true ↔ (0 ≤ i.toInt ∧ i.toInt < 128) := inA_I (t := 6) rfl (by decide) (by decide)
theorem aw7 : inAw (ob H p s) (p + 7) .int i = true ↔ (0 ≤ i.toInt ∧ i.toInt < 128) := inAw_I (t := 6) rfl (by decide) (by decide)
theorem ae7 : elt (ob H p s) (p + 7) i = .int (sA s 7 i.toNatClampNeg) := elt_I (t := 6) (ty := .int) rfl (by decide) (by decide)
theorem as7 : wr (ob H p s) (p + 7) q (.int v) = ob H p (uA s 7 q v) := wr_A (t := 6) (ty := .int) rfl (by decide) (by decide)
theorem ai8 : inA (ob H p s) (p + 8) .int i = true ↔ (0 ≤ i.toInt ∧ i.toInt < 128) := inA_I (t := 7) rfl (by decide) (by decide)
theorem aw8 : inAw (ob H p s) (p + 8) .int i = true ↔ (0 ≤ i.toInt ∧ i.toInt < 128) := inAw_I (t := 7) rfl (by decide) (by decide)
theorem ae8 : elt (ob H p s) (p + 8) i = .int (sA s 8 i.toNatClampNeg) := elt_I (t := 7) (ty := .int) rfl (by decide) (by decide)
theorem as8 : wr (ob H p s) (p + 8) q (.int v) = ob H p (uA s 8 q v) := wr_A (t := 7) (ty := .int) rfl (by decide) (by decide)
theorem ai9 : inA (ob H p s) (p + 9) .int i = true ↔ (0 ≤ i.toInt ∧ i.toInt < 128) := inA_I (t := 8) rfl (by decide) (by decide)
theorem aw9 : inAw (ob H p s) (p + 9) .int i = true ↔ (0 ≤ i.toInt ∧ i.toInt < 128) := inAw_I (t := 8) rfl (by decide) (by decide)
theorem ae9 : elt (ob H p s) (p + 9) i = .int (sA s 9 i.toNatClampNeg) := elt_I (t := 8) (ty := .int) rfl (by decide) (by decide)
theorem as9 : wr (ob H p s) (p + 9) q (.int v) = ob H p (uA s 9 q v) := wr_A (t := 8) (ty := .int) rfl (by decide) (by decide)
theorem ai10 : inA (ob H p s) (p + 10) .boolean i = true ↔ (0 ≤ i.toInt ∧ i.toInt < 128) := inA_I (t := 9) rfl (by decide) (by decide)
theorem aw10 : inAw (ob H p s) (p + 10) .boolean i = true ↔ (0 ≤ i.toInt ∧ i.toInt < 128) := inAw_I (t := 9) rfl (by decide) (by decide)
theorem ain10 : inA (ob H p s) (p + 10) .byte i = true ↔ False := inA_no (t := 9) (ty := .boolean) rfl (by decide) (by decide) (by decide)
theorem awn10 : inAw (ob H p s) (p + 10) .byte i = true ↔ False := inAw_no (t := 9) (ty := .boolean) rfl (by decide) (by decide) (by decide)
theorem ae10 : elt (ob H p s) (p + 10) i = .int (sA s 10 i.toNatClampNeg) := elt_I (t := 9) (ty := .boolean) rfl (by decide) (by decide)
theorem as10 : wr (ob H p s) (p + 10) q (.int v) = ob H p (uA s 10 q v) := wr_A (t := 9) (ty := .boolean) rfl (by decide) (by decide)
theorem ai11 : inA (ob H p s) (p + 11) .int i = true ↔ (0 ≤ i.toInt ∧ i.toInt < 128) := inA_I (t := 10) rfl (by decide) (by decide)
theorem aw11 : inAw (ob H p s) (p + 11) .int i = true ↔ (0 ≤ i.toInt ∧ i.toInt < 128) := inAw_I (t := 10) rfl (by decide) (by decide)
theorem ae11 : elt (ob H p s) (p + 11) i = .int (sA s 11 i.toNatClampNeg) := elt_I (t := 10) (ty := .int) rfl (by decide) (by decide)
theorem as11 : wr (ob H p s) (p + 11) q (.int v) = ob H p (uA s 11 q v) := wr_A (t := 10) (ty := .int) rfl (by decide) (by decide)
theorem ai12 : inA (ob H p s) (p + 12) .int i = true ↔ (0 ≤ i.toInt ∧ i.toInt < 256) := inA_I (t := 11) rfl (by decide) (by decide)
theorem aw12 : inAw (ob H p s) (p + 12) .int i = true ↔ (0 ≤ i.toInt ∧ i.toInt < 256) := inAw_I (t := 11) rfl (by decide) (by decide)
theorem ae12 : elt (ob H p s) (p + 12) i = .int (sA s 12 i.toNatClampNeg) := elt_I (t := 11) (ty := .int) rfl (by decide) (by decide)
theorem as12 : wr (ob H p s) (p + 12) q (.int v) = ob H p (uA s 12 q v) := wr_A (t := 11) (ty := .int) rfl (by decide) (by decide)
theorem ai13 : inA (ob H p s) (p + 13) .int i = true ↔ (0 ≤ i.toInt ∧ i.toInt < 256) := inA_I (t := 12) rfl (by decide) (by decide)
theorem aw13 : inAw (ob H p s) (p + 13) .int i = true ↔ (0 ≤ i.toInt ∧ i.toInt < 256) := inAw_I (t := 12) rfl (by decide) (by decide)
theorem ae13 : elt (ob H p s) (p + 13) i = .int (sA s 13 i.toNatClampNeg) := elt_I (t := 12) (ty := .int) rfl (by decide) (by decide)
theorem as13 : wr (ob H p s) (p + 13) q (.int v) = ob H p (uA s 13 q v) := wr_A (t := 12) (ty := .int) rfl (by decide) (by decide)
theorem ai14 : inA (ob H p s) (p + 14) .int i = true ↔ (0 ≤ i.toInt ∧ i.toInt < 256) := inA_I (t := 13) rfl (by decide) (by decide)
theorem aw14 : inAw (ob H p s) (p + 14) .int i = true ↔ (0 ≤ i.toInt ∧ i.toInt < 256) := inAw_I (t := 13) rfl (by decide) (by decide)
theorem ae14 : elt (ob H p s) (p + 14) i = .int (sA s 14 i.toNatClampNeg) := elt_I (t := 13) (ty := .int) rfl (by decide) (by decide)
theorem as14 : wr (ob H p s) (p + 14) q (.int v) = ob H p (uA s 14 q v) := wr_A (t := 13) (ty := .int) rfl (by decide) (by decide)
theorem mkO_ob {lw : LW} : mkO (pj lw) H = put lay 0 (H.1 + 1, H.2) H.1 z0 := mkO_put rfl (fun k => match k with | 0 => rfl | 1 => rfl | 2 => rfl | 3 => rfl | 4 => rfl | 5 => rfl | 6 => rfl | 7 => rfl | 8 => rfl | 9 => rfl | 10 => rfl | 11 => rfl | 12 => rfl | 13 => rfl | 14 => rfl | 15 => rfl | 16 => rfl | 17 => rfl | 18 => rfl | 19 => rfl | 20 => rfl | 21 => rfl | 22 => rfl | 23 => rfl | (_ + 24) => rfl)
theorem mk1 {h : Nat → Cel} (hz : zr s 1) : wr (mkA .int 128 (put lay 0 (p + 1, h) p s)) p 4 (.ref (p + 1)) = put lay 1 (p + 2, h) p s := mkA_put (j := 0) rfl rfl (by decide) hz.1 hz.2 (Or.inl rfl)
theorem io1 {h : Nat → Cel} : isOw (mkA .int 128 (put lay 0 (p + 1, h) p s)) p = true := isOw_mk (c := 0)
theorem mk2 {h : Nat → Cel} (hz : zr s 2) : wr (mkA .int 128 (put lay 1 (p + 2, h) p s)) p 5 (.ref (p + 2)) = put lay 2 (p + 3, h) p s := mkA_put (j := 1) rfl rfl (by decide) hz.1 hz.2 (Or.inl rfl)
theorem io2 {h : Nat → Cel} : isOw (mkA .int 128 (put lay 1 (p + 2, h) p s)) p = true := isOw_mk (c := 1)
theorem mk3 {h : Nat → Cel} (hz : zr s 3) : wr (mkA .int 128 (put lay 2 (p + 3, h) p s)) p 6 (.ref (p + 3)) = put lay 3 (p + 4, h) p s := mkA_put (j := 2) rfl rfl (by decide) hz.1 hz.2 (Or.inl rfl)
theorem io3 {h : Nat → Cel} : isOw (mkA .int 128 (put lay 2 (p + 3, h) p s)) p = true := isOw_mk (c := 2)
theorem mk4 {h : Nat → Cel} (hz : zr s 4) : wr (mkA .boolean 128 (put lay 3 (p + 4, h) p s)) p 7 (.ref (p + 4)) = put lay 4 (p + 5, h) p s := mkA_put (j := 3) rfl rfl (by decide) hz.1 hz.2 (Or.inr (Or.inr (Or.inr rfl)))
theorem io4 {h : Nat → Cel} : isOw (mkA .boolean 128 (put lay 3 (p + 4, h) p s)) p = true := isOw_mk (c := 3)
theorem mk5 {h : Nat → Cel} (hz : zr s 5) : wr (mkA .boolean 128 (put lay 4 (p + 5, h) p s)) p 8 (.ref (p + 5)) = put lay 5 (p + 6, h) p s := mkA_put (j := 4) rfl rfl (by decide) hz.1 hz.2 (Or.inr (Or.inr (Or.inr rfl)))
theorem io5 {h : Nat → Cel} : isOw (mkA .boolean 128 (put lay 4 (p + 5, h) p s)) p = true := isOw_mk (c := 4)
theorem mk6 {h : Nat → Cel} (hz : zr s 6) : wr (mkA .int 128 (put lay 5 (p + 6, h) p s)) p 9 (.ref (p + 6)) = put lay 6 (p + 7, h) p s := mkA_put (j := 5) rfl rfl (by decide) hz.1 hz.2 (Or.inl rfl)
theorem io6 {h : Nat → Cel} : isOw (mkA .int 128 (put lay 5 (p + 6, h) p s)) p = true := isOw_mk (c := 5)
theorem mk7 {h : Nat → Cel} (hz : zr s 7) : wr (mkA .int 128 (put lay 6 (p + 7, h) p s)) p 10 (.ref (p + 7)) = put lay 7 (p + 8, h) p s := mkA_put (j := 6) rfl rfl (by decide) hz.1 hz.2 (Or.inl rfl)
theorem io7 {h : Nat → Cel} : isOw (mkA .int 128 (put lay 6 (p + 7, h) p s)) p = true := isOw_mk (c := 6)
theorem mk8 {h : Nat → Cel} (hz : zr s 8) : wr (mkA .int 128 (put lay 7 (p + 8, h) p s)) p 11 (.ref (p + 8)) = put lay 8 (p + 9, h) p s := mkA_put (j := 7) rfl rfl (by decide) hz.1 hz.2 (Or.inl rfl)
theorem io8 {h : Nat → Cel} : isOw (mkA .int 128 (put lay 7 (p + 8, h) p s)) p = true := isOw_mk (c := 7)
theorem mk9 {h : Nat → Cel} (hz : zr s 9) : wr (mkA .int 128 (put lay 8 (p + 9, h) p s)) p 12 (.ref (p + 9)) = put lay 9 (p + 10, h) p s := mkA_put (j := 8) rfl rfl (by decide) hz.1 hz.2 (Or.inl rfl)
theorem io9 {h : Nat → Cel} : isOw (mkA .int 128 (put lay 8 (p + 9, h) p s)) p = true := isOw_mk (c := 8)
theorem mk10 {h : Nat → Cel} (hz : zr s 10) : wr (mkA .boolean 128 (put lay 9 (p + 10, h) p s)) p 13 (.ref (p + 10)) = put lay 10 (p + 11, h) p s := mkA_put (j := 9) rfl rfl (by decide) hz.1 hz.2 (Or.inr (Or.inr (Or.inr rfl)))
theorem io10 {h : Nat → Cel} : isOw (mkA .boolean 128 (put lay 9 (p + 10, h) p s)) p = true := isOw_mk (c := 9)
theorem mk11 {h : Nat → Cel} (hz : zr s 11) : wr (mkA .int 128 (put lay 10 (p + 11, h) p s)) p 14 (.ref (p + 11)) = put lay 11 (p + 12, h) p s := mkA_put (j := 10) rfl rfl (by decide) hz.1 hz.2 (Or.inl rfl)
theorem io11 {h : Nat → Cel} : isOw (mkA .int 128 (put lay 10 (p + 11, h) p s)) p = true := isOw_mk (c := 10)
theorem mk12 {h : Nat → Cel} (hz : zr s 12) : wr (mkA .int 256 (put lay 11 (p + 12, h) p s)) p 15 (.ref (p + 12)) = put lay 12 (p + 13, h) p s := mkA_put (j := 11) rfl rfl (by decide) hz.1 hz.2 (Or.inl rfl)
theorem io12 {h : Nat → Cel} : isOw (mkA .int 256 (put lay 11 (p + 12, h) p s)) p = true := isOw_mk (c := 11)
theorem mk13 {h : Nat → Cel} (hz : zr s 13) : wr (mkA .int 256 (put lay 12 (p + 13, h) p s)) p 16 (.ref (p + 13)) = put lay 13 (p + 14, h) p s := mkA_put (j := 12) rfl rfl (by decide) hz.1 hz.2 (Or.inl rfl)
theorem io13 {h : Nat → Cel} : isOw (mkA .int 256 (put lay 12 (p + 13, h) p s)) p = true := isOw_mk (c := 12)
theorem mk14 {h : Nat → Cel} (hz : zr s 14) : wr (mkA .int 256 (put lay 13 (p + 14, h) p s)) p 17 (.ref (p + 14)) = put lay 14 (p + 15, h) p s := mkA_put (j := 13) rfl rfl (by decide) hz.1 hz.2 (Or.inl rfl)
theorem io14 {h : Nat → Cel} : isOw (mkA .int 256 (put lay 13 (p + 14, h) p s)) p = true := isOw_mk (c := 13)
end Acc
section Pc
variable {lw : LW} {L : List Slot} {S : List Value} {k n : Nat} {H : AH} {Q : Option Value → AH → Prop}
theorem c1 {x0 : Nat} {x1 : Int32} {x2 : Int32} {x3 : Int32} {x4 : Int32} : Cl (pj lw) 1 [.ref x0, .int x1, .int x2, .int x3, .int x4] H Q ↔ W (pj lw) 1 0 [.val (.ref x0), .val (.int x1), .val (.int x2), .val (.int x3), .val (.int x4), .unset] [] 0 0 H Q := cl_unf rfl
theorem w1_0 {x : Nat} : W (pj lw) 1 0 (.val (.ref x) :: L) S k n H Q ↔ W (pj lw) 1 1 (.val (.ref x) :: L) (.ref x :: S) k n H Q := W_s (rfl : (pj lw).1 1 0 = some (.aload_n 0, 1, 0)) rfl rfl rfl
theorem w1_1 {a : Nat} : W (pj lw) 1 1 L (.ref a :: S) k n H Q ↔ ((1 ≤ 1 ∧ cs S + 12 ≤ 16) ∧ W (pj lw) 1 4 L S k n H Q) := W_oinit (rfl : (pj lw).1 1 1 = some (.invokespecial 1, 3, (-1)))
theorem w1_4 {x : Nat} : W (pj lw) 1 4 (.val (.ref x) :: L) S k n H Q ↔ W (pj lw) 1 5 (.val (.ref x) :: L) (.ref x :: S) k n H Q := W_s (rfl : (pj lw).1 1 4 = some (.aload_n 0, 1, 0)) rfl rfl rfl
theorem w1_5 : W (pj lw) 1 5 L S k n H Q ↔ W (pj lw) 1 8 L (.int 128 :: S) k n H Q := W_s (rfl : (pj lw).1 1 5 = some (.sipush 128, 3, 0)) rfl rfl rfl
theorem w1_8 : W (pj lw) 1 8 L (.int 128 :: S) k n H Q ↔ ((k + 1 ≤ 14 ∧ n + 128 ≤ 2176) ∧ W (pj lw) 1 10 L (.ref H.1 :: S) (k + 1) (n + 128) (mkA .int 128 H) Q) := W_newarr' (rfl : (pj lw).1 1 8 = some (.newarray .int, 2, 0)) rfl (by decide) (by decide)
theorem w1_10 {a : Nat} {v : Value} : W (pj lw) 1 10 L (v :: .ref a :: S) k n H Q ↔ ((isOw H a = true ∧ okv (.array .int) v = true) ∧ W (pj lw) 1 13 L S k n (wr H a 4 v) Q) := W_putf (rfl : (pj lw).1 1 10 = some (.putfield 7, 3, 4))
theorem w1_13 {x : Nat} : W (pj lw) 1 13 (.val (.ref x) :: L) S k n H Q ↔ W (pj lw) 1 14 (.val (.ref x) :: L) (.ref x :: S) k n H Q := W_s (rfl : (pj lw).1 1 13 = some (.aload_n 0, 1, 0)) rfl rfl rfl
theorem w1_14 : W (pj lw) 1 14 L S k n H Q ↔ W (pj lw) 1 17 L (.int 128 :: S) k n H Q := W_s (rfl : (pj lw).1 1 14 = some (.sipush 128, 3, 0)) rfl rfl rfl
theorem w1_17 : W (pj lw) 1 17 L (.int 128 :: S) k n H Q ↔ ((k + 1 ≤ 14 ∧ n + 128 ≤ 2176) ∧ W (pj lw) 1 19 L (.ref H.1 :: S) (k + 1) (n + 128) (mkA .int 128 H) Q) := W_newarr' (rfl : (pj lw).1 1 17 = some (.newarray .int, 2, 0)) rfl (by decide) (by decide)
theorem w1_19 {a : Nat} {v : Value} : W (pj lw) 1 19 L (v :: .ref a :: S) k n H Q ↔ ((isOw H a = true ∧ okv (.array .int) v = true) ∧ W (pj lw) 1 22 L S k n (wr H a 5 v) Q) := W_putf (rfl : (pj lw).1 1 19 = some (.putfield 13, 3, 5))
theorem w1_22 {x : Nat} : W (pj lw) 1 22 (.val (.ref x) :: L) S k n H Q ↔ W (pj lw) 1 23 (.val (.ref x) :: L) (.ref x :: S) k n H Q := W_s (rfl : (pj lw).1 1 22 = some (.aload_n 0, 1, 0)) rfl rfl rfl
theorem w1_23 : W (pj lw) 1 23 L S k n H Q ↔ W (pj lw) 1 26 L (.int 128 :: S) k n H Q := W_s (rfl : (pj lw).1 1 23 = some (.sipush 128, 3, 0)) rfl rfl rfl
theorem w1_26 : W (pj lw) 1 26 L (.int 128 :: S) k n H Q ↔ ((k + 1 ≤ 14 ∧ n + 128 ≤ 2176) ∧ W (pj lw) 1 28 L (.ref H.1 :: S) (k + 1) (n + 128) (mkA .int 128 H) Q) := W_newarr' (rfl : (pj lw).1 1 26 = some (.newarray .int, 2, 0)) rfl (by decide) (by decide)
theorem w1_28 {a : Nat} {v : Value} : W (pj lw) 1 28 L (v :: .ref a :: S) k n H Q ↔ ((isOw H a = true ∧ okv (.array .int) v = true) ∧ W (pj lw) 1 31 L S k n (wr H a 6 v) Q) := W_putf (rfl : (pj lw).1 1 28 = some (.putfield 16, 3, 6))
theorem w1_31 {x : Nat} : W (pj lw) 1 31 (.val (.ref x) :: L) S k n H Q ↔ W (pj lw) 1 32 (.val (.ref x) :: L) (.ref x :: S) k n H Q := W_s (rfl : (pj lw).1 1 31 = some (.aload_n 0, 1, 0)) rfl rfl rfl
theorem w1_32 : W (pj lw) 1 32 L S k n H Q ↔ W (pj lw) 1 35 L (.int 128 :: S) k n H Q := W_s (rfl : (pj lw).1 1 32 = some (.sipush 128, 3, 0)) rfl rfl rfl
theorem w1_35 : W (pj lw) 1 35 L (.int 128 :: S) k n H Q ↔ ((k + 1 ≤ 14 ∧ n + 128 ≤ 2176) ∧ W (pj lw) 1 37 L (.ref H.1 :: S) (k + 1) (n + 128) (mkA .boolean 128 H) Q) := W_newarr' (rfl : (pj lw).1 1 35 = some (.newarray .boolean, 2, 0)) rfl (by decide) (by decide)
theorem w1_37 {a : Nat} {v : Value} : W (pj lw) 1 37 L (v :: .ref a :: S) k n H Q ↔ ((isOw H a = true ∧ okv (.array .boolean) v = true) ∧ W (pj lw) 1 40 L S k n (wr H a 7 v) Q) := W_putf (rfl : (pj lw).1 1 37 = some (.putfield 19, 3, 7))
theorem w1_40 {x : Nat} : W (pj lw) 1 40 (.val (.ref x) :: L) S k n H Q ↔ W (pj lw) 1 41 (.val (.ref x) :: L) (.ref x :: S) k n H Q := W_s (rfl : (pj lw).1 1 40 = some (.aload_n 0, 1, 0)) rfl rfl rfl
theorem w1_41 : W (pj lw) 1 41 L S k n H Q ↔ W (pj lw) 1 44 L (.int 128 :: S) k n H Q := W_s (rfl : (pj lw).1 1 41 = some (.sipush 128, 3, 0)) rfl rfl rfl
theorem w1_44 : W (pj lw) 1 44 L (.int 128 :: S) k n H Q ↔ ((k + 1 ≤ 14 ∧ n + 128 ≤ 2176) ∧ W (pj lw) 1 46 L (.ref H.1 :: S) (k + 1) (n + 128) (mkA .boolean 128 H) Q) := W_newarr' (rfl : (pj lw).1 1 44 = some (.newarray .boolean, 2, 0)) rfl (by decide) (by decide)
theorem w1_46 {a : Nat} {v : Value} : W (pj lw) 1 46 L (v :: .ref a :: S) k n H Q ↔ ((isOw H a = true ∧ okv (.array .boolean) v = true) ∧ W (pj lw) 1 49 L S k n (wr H a 8 v) Q) := W_putf (rfl : (pj lw).1 1 46 = some (.putfield 23, 3, 8))
theorem w1_49 {x : Nat} : W (pj lw) 1 49 (.val (.ref x) :: L) S k n H Q ↔ W (pj lw) 1 50 (.val (.ref x) :: L) (.ref x :: S) k n H Q := W_s (rfl : (pj lw).1 1 49 = some (.aload_n 0, 1, 0)) rfl rfl rfl
theorem w1_50 : W (pj lw) 1 50 L S k n H Q ↔ W (pj lw) 1 53 L (.int 128 :: S) k n H Q := W_s (rfl : (pj lw).1 1 50 = some (.sipush 128, 3, 0)) rfl rfl rfl
theorem w1_53 : W (pj lw) 1 53 L (.int 128 :: S) k n H Q ↔ ((k + 1 ≤ 14 ∧ n + 128 ≤ 2176) ∧ W (pj lw) 1 55 L (.ref H.1 :: S) (k + 1) (n + 128) (mkA .int 128 H) Q) := W_newarr' (rfl : (pj lw).1 1 53 = some (.newarray .int, 2, 0)) rfl (by decide) (by decide)
theorem w1_55 {a : Nat} {v : Value} : W (pj lw) 1 55 L (v :: .ref a :: S) k n H Q ↔ ((isOw H a = true ∧ okv (.array .int) v = true) ∧ W (pj lw) 1 58 L S k n (wr H a 9 v) Q) := W_putf (rfl : (pj lw).1 1 55 = some (.putfield 26, 3, 9))
theorem w1_58 {x : Nat} : W (pj lw) 1 58 (.val (.ref x) :: L) S k n H Q ↔ W (pj lw) 1 59 (.val (.ref x) :: L) (.ref x :: S) k n H Q := W_s (rfl : (pj lw).1 1 58 = some (.aload_n 0, 1, 0)) rfl rfl rfl
theorem w1_59 : W (pj lw) 1 59 L S k n H Q ↔ W (pj lw) 1 62 L (.int 128 :: S) k n H Q := W_s (rfl : (pj lw).1 1 59 = some (.sipush 128, 3, 0)) rfl rfl rfl
theorem w1_62 : W (pj lw) 1 62 L (.int 128 :: S) k n H Q ↔ ((k + 1 ≤ 14 ∧ n + 128 ≤ 2176) ∧ W (pj lw) 1 64 L (.ref H.1 :: S) (k + 1) (n + 128) (mkA .int 128 H) Q) := W_newarr' (rfl : (pj lw).1 1 62 = some (.newarray .int, 2, 0)) rfl (by decide) (by decide)
theorem w1_64 {a : Nat} {v : Value} : W (pj lw) 1 64 L (v :: .ref a :: S) k n H Q ↔ ((isOw H a = true ∧ okv (.array .int) v = true) ∧ W (pj lw) 1 67 L S k n (wr H a 10 v) Q) := W_putf (rfl : (pj lw).1 1 64 = some (.putfield 29, 3, 10))
theorem w1_67 {x : Nat} : W (pj lw) 1 67 (.val (.ref x) :: L) S k n H Q ↔ W (pj lw) 1 68 (.val (.ref x) :: L) (.ref x :: S) k n H Q := W_s (rfl : (pj lw).1 1 67 = some (.aload_n 0, 1, 0)) rfl rfl rfl
theorem w1_68 : W (pj lw) 1 68 L S k n H Q ↔ W (pj lw) 1 71 L (.int 128 :: S) k n H Q := W_s (rfl : (pj lw).1 1 68 = some (.sipush 128, 3, 0)) rfl rfl rfl
theorem w1_71 : W (pj lw) 1 71 L (.int 128 :: S) k n H Q ↔ ((k + 1 ≤ 14 ∧ n + 128 ≤ 2176) ∧ W (pj lw) 1 73 L (.ref H.1 :: S) (k + 1) (n + 128) (mkA .int 128 H) Q) := W_newarr' (rfl : (pj lw).1 1 71 = some (.newarray .int, 2, 0)) rfl (by decide) (by decide)
theorem w1_73 {a : Nat} {v : Value} : W (pj lw) 1 73 L (v :: .ref a :: S) k n H Q ↔ ((isOw H a = true ∧ okv (.array .int) v = true) ∧ W (pj lw) 1 76 L S k n (wr H a 11 v) Q) := W_putf (rfl : (pj lw).1 1 73 = some (.putfield 32, 3, 11))
theorem w1_76 {x : Nat} : W (pj lw) 1 76 (.val (.ref x) :: L) S k n H Q ↔ W (pj lw) 1 77 (.val (.ref x) :: L) (.ref x :: S) k n H Q := W_s (rfl : (pj lw).1 1 76 = some (.aload_n 0, 1, 0)) rfl rfl rfl
theorem w1_77 : W (pj lw) 1 77 L S k n H Q ↔ W (pj lw) 1 80 L (.int 128 :: S) k n H Q := W_s (rfl : (pj lw).1 1 77 = some (.sipush 128, 3, 0)) rfl rfl rfl
theorem w1_80 : W (pj lw) 1 80 L (.int 128 :: S) k n H Q ↔ ((k + 1 ≤ 14 ∧ n + 128 ≤ 2176) ∧ W (pj lw) 1 82 L (.ref H.1 :: S) (k + 1) (n + 128) (mkA .int 128 H) Q) := W_newarr' (rfl : (pj lw).1 1 80 = some (.newarray .int, 2, 0)) rfl (by decide) (by decide)
theorem w1_82 {a : Nat} {v : Value} : W (pj lw) 1 82 L (v :: .ref a :: S) k n H Q ↔ ((isOw H a = true ∧ okv (.array .int) v = true) ∧ W (pj lw) 1 85 L S k n (wr H a 12 v) Q) := W_putf (rfl : (pj lw).1 1 82 = some (.putfield 35, 3, 12))
theorem w1_85 {x : Nat} : W (pj lw) 1 85 (.val (.ref x) :: L) S k n H Q ↔ W (pj lw) 1 86 (.val (.ref x) :: L) (.ref x :: S) k n H Q := W_s (rfl : (pj lw).1 1 85 = some (.aload_n 0, 1, 0)) rfl rfl rfl
theorem w1_86 : W (pj lw) 1 86 L S k n H Q ↔ W (pj lw) 1 89 L (.int 128 :: S) k n H Q := W_s (rfl : (pj lw).1 1 86 = some (.sipush 128, 3, 0)) rfl rfl rfl
theorem w1_89 : W (pj lw) 1 89 L (.int 128 :: S) k n H Q ↔ ((k + 1 ≤ 14 ∧ n + 128 ≤ 2176) ∧ W (pj lw) 1 91 L (.ref H.1 :: S) (k + 1) (n + 128) (mkA .boolean 128 H) Q) := W_newarr' (rfl : (pj lw).1 1 89 = some (.newarray .boolean, 2, 0)) rfl (by decide) (by decide)
theorem w1_91 {a : Nat} {v : Value} : W (pj lw) 1 91 L (v :: .ref a :: S) k n H Q ↔ ((isOw H a = true ∧ okv (.array .boolean) v = true) ∧ W (pj lw) 1 94 L S k n (wr H a 13 v) Q) := W_putf (rfl : (pj lw).1 1 91 = some (.putfield 38, 3, 13))
theorem w1_94 {x : Nat} : W (pj lw) 1 94 (.val (.ref x) :: L) S k n H Q ↔ W (pj lw) 1 95 (.val (.ref x) :: L) (.ref x :: S) k n H Q := W_s (rfl : (pj lw).1 1 94 = some (.aload_n 0, 1, 0)) rfl rfl rfl
theorem w1_95 : W (pj lw) 1 95 L S k n H Q ↔ W (pj lw) 1 98 L (.int 128 :: S) k n H Q := W_s (rfl : (pj lw).1 1 95 = some (.sipush 128, 3, 0)) rfl rfl rfl
theorem w1_98 : W (pj lw) 1 98 L (.int 128 :: S) k n H Q ↔ ((k + 1 ≤ 14 ∧ n + 128 ≤ 2176) ∧ W (pj lw) 1 100 L (.ref H.1 :: S) (k + 1) (n + 128) (mkA .int 128 H) Q) := W_newarr' (rfl : (pj lw).1 1 98 = some (.newarray .int, 2, 0)) rfl (by decide) (by decide)
theorem w1_100 {a : Nat} {v : Value} : W (pj lw) 1 100 L (v :: .ref a :: S) k n H Q ↔ ((isOw H a = true ∧ okv (.array .int) v = true) ∧ W (pj lw) 1 103 L S k n (wr H a 14 v) Q) := W_putf (rfl : (pj lw).1 1 100 = some (.putfield 41, 3, 14))
theorem w1_103 {x : Nat} : W (pj lw) 1 103 (.val (.ref x) :: L) S k n H Q ↔ W (pj lw) 1 104 (.val (.ref x) :: L) (.ref x :: S) k n H Q := W_s (rfl : (pj lw).1 1 103 = some (.aload_n 0, 1, 0)) rfl rfl rfl
theorem w1_104 : W (pj lw) 1 104 L S k n H Q ↔ W (pj lw) 1 107 L (.int 256 :: S) k n H Q := W_s (rfl : (pj lw).1 1 104 = some (.sipush 256, 3, 0)) rfl rfl rfl
theorem w1_107 : W (pj lw) 1 107 L (.int 256 :: S) k n H Q ↔ ((k + 1 ≤ 14 ∧ n + 256 ≤ 2176) ∧ W (pj lw) 1 109 L (.ref H.1 :: S) (k + 1) (n + 256) (mkA .int 256 H) Q) := W_newarr' (rfl : (pj lw).1 1 107 = some (.newarray .int, 2, 0)) rfl (by decide) (by decide)
theorem w1_109 {a : Nat} {v : Value} : W (pj lw) 1 109 L (v :: .ref a :: S) k n H Q ↔ ((isOw H a = true ∧ okv (.array .int) v = true) ∧ W (pj lw) 1 112 L S k n (wr H a 15 v) Q) := W_putf (rfl : (pj lw).1 1 109 = some (.putfield 44, 3, 15))
theorem w1_112 {x : Nat} : W (pj lw) 1 112 (.val (.ref x) :: L) S k n H Q ↔ W (pj lw) 1 113 (.val (.ref x) :: L) (.ref x :: S) k n H Q := W_s (rfl : (pj lw).1 1 112 = some (.aload_n 0, 1, 0)) rfl rfl rfl
theorem w1_113 : W (pj lw) 1 113 L S k n H Q ↔ W (pj lw) 1 116 L (.int 256 :: S) k n H Q := W_s (rfl : (pj lw).1 1 113 = some (.sipush 256, 3, 0)) rfl rfl rfl
theorem w1_116 : W (pj lw) 1 116 L (.int 256 :: S) k n H Q ↔ ((k + 1 ≤ 14 ∧ n + 256 ≤ 2176) ∧ W (pj lw) 1 118 L (.ref H.1 :: S) (k + 1) (n + 256) (mkA .int 256 H) Q) := W_newarr' (rfl : (pj lw).1 1 116 = some (.newarray .int, 2, 0)) rfl (by decide) (by decide)
theorem w1_118 {a : Nat} {v : Value} : W (pj lw) 1 118 L (v :: .ref a :: S) k n H Q ↔ ((isOw H a = true ∧ okv (.array .int) v = true) ∧ W (pj lw) 1 121 L S k n (wr H a 16 v) Q) := W_putf (rfl : (pj lw).1 1 118 = some (.putfield 47, 3, 16))
theorem w1_121 {x : Nat} : W (pj lw) 1 121 (.val (.ref x) :: L) S k n H Q ↔ W (pj lw) 1 122 (.val (.ref x) :: L) (.ref x :: S) k n H Q := W_s (rfl : (pj lw).1 1 121 = some (.aload_n 0, 1, 0)) rfl rfl rfl
theorem w1_122 : W (pj lw) 1 122 L S k n H Q ↔ W (pj lw) 1 125 L (.int 256 :: S) k n H Q := W_s (rfl : (pj lw).1 1 122 = some (.sipush 256, 3, 0)) rfl rfl rfl
theorem w1_125 : W (pj lw) 1 125 L (.int 256 :: S) k n H Q ↔ ((k + 1 ≤ 14 ∧ n + 256 ≤ 2176) ∧ W (pj lw) 1 127 L (.ref H.1 :: S) (k + 1) (n + 256) (mkA .int 256 H) Q) := W_newarr' (rfl : (pj lw).1 1 125 = some (.newarray .int, 2, 0)) rfl (by decide) (by decide)
theorem w1_127 {a : Nat} {v : Value} : W (pj lw) 1 127 L (v :: .ref a :: S) k n H Q ↔ ((isOw H a = true ∧ okv (.array .int) v = true) ∧ W (pj lw) 1 130 L S k n (wr H a 17 v) Q) := W_putf (rfl : (pj lw).1 1 127 = some (.putfield 50, 3, 17))
theorem w1_130 {x : Nat} : W (pj lw) 1 130 (.val (.ref x) :: L) S k n H Q ↔ W (pj lw) 1 131 (.val (.ref x) :: L) (.ref x :: S) k n H Q := W_s (rfl : (pj lw).1 1 130 = some (.aload_n 0, 1, 0)) rfl rfl rfl
theorem w1_131 {x : Nat} : W (pj lw) 1 131 (.val (.ref x) :: L) S k n H Q ↔ W (pj lw) 1 132 (.val (.ref x) :: L) (.ref x :: S) k n H Q := W_s (rfl : (pj lw).1 1 131 = some (.aload_n 0, 1, 0)) rfl rfl rfl
theorem w1_132 {x : Int32} {l0 : Slot} : W (pj lw) 1 132 (l0 :: .val (.int x) :: L) S k n H Q ↔ W (pj lw) 1 133 (l0 :: .val (.int x) :: L) (.int x :: S) k n H Q := W_s (rfl : (pj lw).1 1 132 = some (.iload_n 1, 1, 0)) rfl rfl rfl
theorem w1_133 : W (pj lw) 1 133 L S k n H Q ↔ W (pj lw) 1 134 L (.int 2 :: S) k n H Q := W_s (rfl : (pj lw).1 1 133 = some (.iconst 2, 1, 0)) rfl rfl rfl
theorem w1_134 : W (pj lw) 1 134 L S k n H Q ↔ W (pj lw) 1 137 L (.int 128 :: S) k n H Q := W_s (rfl : (pj lw).1 1 134 = some (.sipush 128, 3, 0)) rfl rfl rfl
theorem w1_137 {a : Nat} {x0 : Int32} {x1 : Int32} {x2 : Int32} : W (pj lw) 1 137 L (.int x2 :: .int x1 :: .int x0 :: .ref a :: S) k n H Q ↔ ((isO H a = true ∧ cs S + (4 + 11) + 0 ≤ 16) ∧ Cl (pj lw) 17 [.ref a, .int x0, .int x1, .int x2] H (fun v H => W (pj lw) 1 140 L (v.toList ++ S) k n H Q)) := W_inst (as := [.int x0, .int x1, .int x2]) (rfl : (pj lw).1 1 137 = some (.invokevirtual 53, 3, 17)) rfl rfl rfl (Nat.le_of_ble_eq_true rfl) (Nat.le_of_ble_eq_true rfl) ⟨rfl, rfl⟩
theorem w1_140 {a : Nat} {v : Value} : W (pj lw) 1 140 L (v :: .ref a :: S) k n H Q ↔ ((isOw H a = true ∧ okv (.int) v = true) ∧ W (pj lw) 1 143 L S k n (wr H a 0 v) Q) := W_putf (rfl : (pj lw).1 1 140 = some (.putfield 57, 3, 0))
theorem w1_143 {x : Nat} : W (pj lw) 1 143 (.val (.ref x) :: L) S k n H Q ↔ W (pj lw) 1 144 (.val (.ref x) :: L) (.ref x :: S) k n H Q := W_s (rfl : (pj lw).1 1 143 = some (.aload_n 0, 1, 0)) rfl rfl rfl
theorem w1_144 {x : Nat} : W (pj lw) 1 144 (.val (.ref x) :: L) S k n H Q ↔ W (pj lw) 1 145 (.val (.ref x) :: L) (.ref x :: S) k n H Q := W_s (rfl : (pj lw).1 1 144 = some (.aload_n 0, 1, 0)) rfl rfl rfl
theorem w1_145 {x : Int32} {l0 l1 : Slot} : W (pj lw) 1 145 (l0 :: l1 :: .val (.int x) :: L) S k n H Q ↔ W (pj lw) 1 146 (l0 :: l1 :: .val (.int x) :: L) (.int x :: S) k n H Q := W_s (rfl : (pj lw).1 1 145 = some (.iload_n 2, 1, 0)) rfl rfl rfl
theorem w1_146 : W (pj lw) 1 146 L S k n H Q ↔ W (pj lw) 1 147 L (.int 1 :: S) k n H Q := W_s (rfl : (pj lw).1 1 146 = some (.iconst 1, 1, 0)) rfl rfl rfl
theorem w1_147 : W (pj lw) 1 147 L S k n H Q ↔ W (pj lw) 1 149 L (.int 8 :: S) k n H Q := W_s (rfl : (pj lw).1 1 147 = some (.bipush 8, 2, 0)) rfl rfl rfl
theorem w1_149 {a : Nat} {x0 : Int32} {x1 : Int32} {x2 : Int32} : W (pj lw) 1 149 L (.int x2 :: .int x1 :: .int x0 :: .ref a :: S) k n H Q ↔ ((isO H a = true ∧ cs S + (4 + 11) + 0 ≤ 16) ∧ Cl (pj lw) 17 [.ref a, .int x0, .int x1, .int x2] H (fun v H => W (pj lw) 1 152 L (v.toList ++ S) k n H Q)) := W_inst (as := [.int x0, .int x1, .int x2]) (rfl : (pj lw).1 1 149 = some (.invokevirtual 53, 3, 17)) rfl rfl rfl (Nat.le_of_ble_eq_true rfl) (Nat.le_of_ble_eq_true rfl) ⟨rfl, rfl⟩
theorem w1_152 {a : Nat} {v : Value} : W (pj lw) 1 152 L (v :: .ref a :: S) k n H Q ↔ ((isOw H a = true ∧ okv (.int) v = true) ∧ W (pj lw) 1 155 L S k n (wr H a 1 v) Q) := W_putf (rfl : (pj lw).1 1 152 = some (.putfield 61, 3, 1))
theorem w1_155 {x : Nat} : W (pj lw) 1 155 (.val (.ref x) :: L) S k n H Q ↔ W (pj lw) 1 156 (.val (.ref x) :: L) (.ref x :: S) k n H Q := W_s (rfl : (pj lw).1 1 155 = some (.aload_n 0, 1, 0)) rfl rfl rfl
theorem w1_156 {x : Nat} : W (pj lw) 1 156 (.val (.ref x) :: L) S k n H Q ↔ W (pj lw) 1 157 (.val (.ref x) :: L) (.ref x :: S) k n H Q := W_s (rfl : (pj lw).1 1 156 = some (.aload_n 0, 1, 0)) rfl rfl rfl
theorem w1_157 {x : Int32} {l0 l1 l2 : Slot} : W (pj lw) 1 157 (l0 :: l1 :: l2 :: .val (.int x) :: L) S k n H Q ↔ W (pj lw) 1 158 (l0 :: l1 :: l2 :: .val (.int x) :: L) (.int x :: S) k n H Q := W_s (rfl : (pj lw).1 1 157 = some (.iload_n 3, 1, 0)) rfl rfl rfl
theorem w1_158 : W (pj lw) 1 158 L S k n H Q ↔ W (pj lw) 1 159 L (.int 1 :: S) k n H Q := W_s (rfl : (pj lw).1 1 158 = some (.iconst 1, 1, 0)) rfl rfl rfl
theorem w1_159 : W (pj lw) 1 159 L S k n H Q ↔ W (pj lw) 1 161 L (.int 8 :: S) k n H Q := W_s (rfl : (pj lw).1 1 159 = some (.bipush 8, 2, 0)) rfl rfl rfl
theorem w1_161 {a : Nat} {x0 : Int32} {x1 : Int32} {x2 : Int32} : W (pj lw) 1 161 L (.int x2 :: .int x1 :: .int x0 :: .ref a :: S) k n H Q ↔ ((isO H a = true ∧ cs S + (4 + 11) + 0 ≤ 16) ∧ Cl (pj lw) 17 [.ref a, .int x0, .int x1, .int x2] H (fun v H => W (pj lw) 1 164 L (v.toList ++ S) k n H Q)) := W_inst (as := [.int x0, .int x1, .int x2]) (rfl : (pj lw).1 1 161 = some (.invokevirtual 53, 3, 17)) rfl rfl rfl (Nat.le_of_ble_eq_true rfl) (Nat.le_of_ble_eq_true rfl) ⟨rfl, rfl⟩
theorem w1_164 {a : Nat} {v : Value} : W (pj lw) 1 164 L (v :: .ref a :: S) k n H Q ↔ ((isOw H a = true ∧ okv (.int) v = true) ∧ W (pj lw) 1 167 L S k n (wr H a 2 v) Q) := W_putf (rfl : (pj lw).1 1 164 = some (.putfield 64, 3, 2))
theorem w1_167 {x : Nat} : W (pj lw) 1 167 (.val (.ref x) :: L) S k n H Q ↔ W (pj lw) 1 168 (.val (.ref x) :: L) (.ref x :: S) k n H Q := W_s (rfl : (pj lw).1 1 167 = some (.aload_n 0, 1, 0)) rfl rfl rfl
theorem w1_168 {x : Nat} : W (pj lw) 1 168 (.val (.ref x) :: L) S k n H Q ↔ W (pj lw) 1 169 (.val (.ref x) :: L) (.ref x :: S) k n H Q := W_s (rfl : (pj lw).1 1 168 = some (.aload_n 0, 1, 0)) rfl rfl rfl
theorem w1_169 {x : Int32} {l0 l1 l2 l3 : Slot} : W (pj lw) 1 169 (l0 :: l1 :: l2 :: l3 :: .val (.int x) :: L) S k n H Q ↔ W (pj lw) 1 171 (l0 :: l1 :: l2 :: l3 :: .val (.int x) :: L) (.int x :: S) k n H Q := W_s (rfl : (pj lw).1 1 169 = some (.iload 4, 2, 0)) rfl rfl rfl
theorem w1_171 : W (pj lw) 1 171 L S k n H Q ↔ W (pj lw) 1 172 L (.int 1 :: S) k n H Q := W_s (rfl : (pj lw).1 1 171 = some (.iconst 1, 1, 0)) rfl rfl rfl
theorem w1_172 : W (pj lw) 1 172 L S k n H Q ↔ W (pj lw) 1 174 L (.int 16 :: S) k n H Q := W_s (rfl : (pj lw).1 1 172 = some (.bipush 16, 2, 0)) rfl rfl rfl
theorem w1_174 {a : Nat} {x0 : Int32} {x1 : Int32} {x2 : Int32} : W (pj lw) 1 174 L (.int x2 :: .int x1 :: .int x0 :: .ref a :: S) k n H Q ↔ ((isO H a = true ∧ cs S + (4 + 11) + 0 ≤ 16) ∧ Cl (pj lw) 17 [.ref a, .int x0, .int x1, .int x2] H (fun v H => W (pj lw) 1 177 L (v.toList ++ S) k n H Q)) := W_inst (as := [.int x0, .int x1, .int x2]) (rfl : (pj lw).1 1 174 = some (.invokevirtual 53, 3, 17)) rfl rfl rfl (Nat.le_of_ble_eq_true rfl) (Nat.le_of_ble_eq_true rfl) ⟨rfl, rfl⟩
theorem w1_177 {a : Nat} {v : Value} : W (pj lw) 1 177 L (v :: .ref a :: S) k n H Q ↔ ((isOw H a = true ∧ okv (.int) v = true) ∧ W (pj lw) 1 180 L S k n (wr H a 3 v) Q) := W_putf (rfl : (pj lw).1 1 177 = some (.putfield 67, 3, 3))
theorem w1_180 : W (pj lw) 1 180 L S k n H Q ↔ W (pj lw) 1 181 L (.int 0 :: S) k n H Q := W_s (rfl : (pj lw).1 1 180 = some (.iconst 0, 1, 0)) rfl rfl rfl
theorem w1_181 {x : Int32} {l0 l1 l2 l3 l4 : Slot} : W (pj lw) 1 181 (l0 :: l1 :: l2 :: l3 :: l4 :: .unset :: L) (.int x :: S) k n H Q ↔ W (pj lw) 1 183 (l0 :: l1 :: l2 :: l3 :: l4 :: .val (.int x) :: L) S k n H Q := W_ist (rfl : (pj lw).1 1 181 = some (.istore 5, 2, 0)) rfl rfl
theorem w1_183 {x : Int32} {l0 l1 l2 l3 l4 : Slot} : W (pj lw) 1 183 (l0 :: l1 :: l2 :: l3 :: l4 :: .val (.int x) :: L) S k n H Q ↔ W (pj lw) 1 185 (l0 :: l1 :: l2 :: l3 :: l4 :: .val (.int x) :: L) (.int x :: S) k n H Q := W_s (rfl : (pj lw).1 1 183 = some (.iload 5, 2, 0)) rfl rfl rfl
theorem w1_185 : W (pj lw) 1 185 L S k n H Q ↔ W (pj lw) 1 188 L (.int 128 :: S) k n H Q := W_s (rfl : (pj lw).1 1 185 = some (.sipush 128, 3, 0)) rfl rfl rfl
theorem w1_188 {x y : Int32} : W (pj lw) 1 188 L (.int y :: .int x :: S) k n H Q ↔ (if x < y then W (pj lw) 1 191 L S k n H Q else W (pj lw) 1 262 L S k n H Q) := W_icmp_ge (rfl : (pj lw).1 1 188 = some (.if_icmp .ge 74, 3, 0)) rfl
theorem w1_191 {x : Nat} : W (pj lw) 1 191 (.val (.ref x) :: L) S k n H Q ↔ W (pj lw) 1 192 (.val (.ref x) :: L) (.ref x :: S) k n H Q := W_s (rfl : (pj lw).1 1 191 = some (.aload_n 0, 1, 0)) rfl rfl rfl
theorem w1_192 {a : Nat} : W (pj lw) 1 192 L (.ref a :: S) k n H Q ↔ (isO H a = true ∧ W (pj lw) 1 195 L (fld H a 4 :: S) k n H Q) := W_getf (rfl : (pj lw).1 1 192 = some (.getfield 7, 3, 4))
theorem w1_195 {x : Int32} {l0 l1 l2 l3 l4 : Slot} : W (pj lw) 1 195 (l0 :: l1 :: l2 :: l3 :: l4 :: .val (.int x) :: L) S k n H Q ↔ W (pj lw) 1 197 (l0 :: l1 :: l2 :: l3 :: l4 :: .val (.int x) :: L) (.int x :: S) k n H Q := W_s (rfl : (pj lw).1 1 195 = some (.iload 5, 2, 0)) rfl rfl rfl
theorem w1_197 : W (pj lw) 1 197 L S k n H Q ↔ W (pj lw) 1 198 L (.int 0 :: S) k n H Q := W_s (rfl : (pj lw).1 1 197 = some (.iconst 0, 1, 0)) rfl rfl rfl
theorem w1_198 {x i : Int32} {a : Nat} : W (pj lw) 1 198 L (.int x :: .int i :: .ref a :: S) k n H Q ↔ (inAw H a .int i = true ∧ W (pj lw) 1 199 L S k n (wr H a i.toNatClampNeg (.int x)) Q) := W_iastore (rfl : (pj lw).1 1 198 = some (.iastore, 1, 0))
theorem w1_199 {x : Nat} : W (pj lw) 1 199 (.val (.ref x) :: L) S k n H Q ↔ W (pj lw) 1 200 (.val (.ref x) :: L) (.ref x :: S) k n H Q := W_s (rfl : (pj lw).1 1 199 = some (.aload_n 0, 1, 0)) rfl rfl rfl
theorem w1_200 {a : Nat} : W (pj lw) 1 200 L (.ref a :: S) k n H Q ↔ (isO H a = true ∧ W (pj lw) 1 203 L (fld H a 5 :: S) k n H Q) := W_getf (rfl : (pj lw).1 1 200 = some (.getfield 13, 3, 5))
theorem w1_203 {x : Int32} {l0 l1 l2 l3 l4 : Slot} : W (pj lw) 1 203 (l0 :: l1 :: l2 :: l3 :: l4 :: .val (.int x) :: L) S k n H Q ↔ W (pj lw) 1 205 (l0 :: l1 :: l2 :: l3 :: l4 :: .val (.int x) :: L) (.int x :: S) k n H Q := W_s (rfl : (pj lw).1 1 203 = some (.iload 5, 2, 0)) rfl rfl rfl
theorem w1_205 : W (pj lw) 1 205 L S k n H Q ↔ W (pj lw) 1 206 L (.int 0 :: S) k n H Q := W_s (rfl : (pj lw).1 1 205 = some (.iconst 0, 1, 0)) rfl rfl rfl
theorem w1_206 {x i : Int32} {a : Nat} : W (pj lw) 1 206 L (.int x :: .int i :: .ref a :: S) k n H Q ↔ (inAw H a .int i = true ∧ W (pj lw) 1 207 L S k n (wr H a i.toNatClampNeg (.int x)) Q) := W_iastore (rfl : (pj lw).1 1 206 = some (.iastore, 1, 0))
theorem w1_207 {x : Nat} : W (pj lw) 1 207 (.val (.ref x) :: L) S k n H Q ↔ W (pj lw) 1 208 (.val (.ref x) :: L) (.ref x :: S) k n H Q := W_s (rfl : (pj lw).1 1 207 = some (.aload_n 0, 1, 0)) rfl rfl rfl
theorem w1_208 {a : Nat} : W (pj lw) 1 208 L (.ref a :: S) k n H Q ↔ (isO H a = true ∧ W (pj lw) 1 211 L (fld H a 6 :: S) k n H Q) := W_getf (rfl : (pj lw).1 1 208 = some (.getfield 16, 3, 6))
theorem w1_211 {x : Int32} {l0 l1 l2 l3 l4 : Slot} : W (pj lw) 1 211 (l0 :: l1 :: l2 :: l3 :: l4 :: .val (.int x) :: L) S k n H Q ↔ W (pj lw) 1 213 (l0 :: l1 :: l2 :: l3 :: l4 :: .val (.int x) :: L) (.int x :: S) k n H Q := W_s (rfl : (pj lw).1 1 211 = some (.iload 5, 2, 0)) rfl rfl rfl
theorem w1_213 : W (pj lw) 1 213 L S k n H Q ↔ W (pj lw) 1 214 L (.int 0 :: S) k n H Q := W_s (rfl : (pj lw).1 1 213 = some (.iconst 0, 1, 0)) rfl rfl rfl
theorem w1_214 {x i : Int32} {a : Nat} : W (pj lw) 1 214 L (.int x :: .int i :: .ref a :: S) k n H Q ↔ (inAw H a .int i = true ∧ W (pj lw) 1 215 L S k n (wr H a i.toNatClampNeg (.int x)) Q) := W_iastore (rfl : (pj lw).1 1 214 = some (.iastore, 1, 0))
theorem w1_215 {x : Nat} : W (pj lw) 1 215 (.val (.ref x) :: L) S k n H Q ↔ W (pj lw) 1 216 (.val (.ref x) :: L) (.ref x :: S) k n H Q := W_s (rfl : (pj lw).1 1 215 = some (.aload_n 0, 1, 0)) rfl rfl rfl
theorem w1_216 {a : Nat} : W (pj lw) 1 216 L (.ref a :: S) k n H Q ↔ (isO H a = true ∧ W (pj lw) 1 219 L (fld H a 7 :: S) k n H Q) := W_getf (rfl : (pj lw).1 1 216 = some (.getfield 19, 3, 7))
theorem w1_219 {x : Int32} {l0 l1 l2 l3 l4 : Slot} : W (pj lw) 1 219 (l0 :: l1 :: l2 :: l3 :: l4 :: .val (.int x) :: L) S k n H Q ↔ W (pj lw) 1 221 (l0 :: l1 :: l2 :: l3 :: l4 :: .val (.int x) :: L) (.int x :: S) k n H Q := W_s (rfl : (pj lw).1 1 219 = some (.iload 5, 2, 0)) rfl rfl rfl
theorem w1_221 : W (pj lw) 1 221 L S k n H Q ↔ W (pj lw) 1 222 L (.int 0 :: S) k n H Q := W_s (rfl : (pj lw).1 1 221 = some (.iconst 0, 1, 0)) rfl rfl rfl
theorem w1_222 {x i : Int32} {a : Nat} : W (pj lw) 1 222 L (.int x :: .int i :: .ref a :: S) k n H Q ↔ (((inAw H a .byte i = true ∧ okv .byte (.int x) = true) ∨ (inAw H a .boolean i = true ∧ okv .boolean (.int x) = true)) ∧ W (pj lw) 1 223 L S k n (wr H a i.toNatClampNeg (.int x)) Q) := W_bastore (rfl : (pj lw).1 1 222 = some (.bastore, 1, 0))
theorem w1_223 {x : Nat} : W (pj lw) 1 223 (.val (.ref x) :: L) S k n H Q ↔ W (pj lw) 1 224 (.val (.ref x) :: L) (.ref x :: S) k n H Q := W_s (rfl : (pj lw).1 1 223 = some (.aload_n 0, 1, 0)) rfl rfl rfl
theorem w1_224 {a : Nat} : W (pj lw) 1 224 L (.ref a :: S) k n H Q ↔ (isO H a = true ∧ W (pj lw) 1 227 L (fld H a 8 :: S) k n H Q) := W_getf (rfl : (pj lw).1 1 224 = some (.getfield 23, 3, 8))
theorem w1_227 {x : Int32} {l0 l1 l2 l3 l4 : Slot} : W (pj lw) 1 227 (l0 :: l1 :: l2 :: l3 :: l4 :: .val (.int x) :: L) S k n H Q ↔ W (pj lw) 1 229 (l0 :: l1 :: l2 :: l3 :: l4 :: .val (.int x) :: L) (.int x :: S) k n H Q := W_s (rfl : (pj lw).1 1 227 = some (.iload 5, 2, 0)) rfl rfl rfl
theorem w1_229 : W (pj lw) 1 229 L S k n H Q ↔ W (pj lw) 1 230 L (.int 0 :: S) k n H Q := W_s (rfl : (pj lw).1 1 229 = some (.iconst 0, 1, 0)) rfl rfl rfl
theorem w1_230 {x i : Int32} {a : Nat} : W (pj lw) 1 230 L (.int x :: .int i :: .ref a :: S) k n H Q ↔ (((inAw H a .byte i = true ∧ okv .byte (.int x) = true) ∨ (inAw H a .boolean i = true ∧ okv .boolean (.int x) = true)) ∧ W (pj lw) 1 231 L S k n (wr H a i.toNatClampNeg (.int x)) Q) := W_bastore (rfl : (pj lw).1 1 230 = some (.bastore, 1, 0))
theorem w1_231 {x : Nat} : W (pj lw) 1 231 (.val (.ref x) :: L) S k n H Q ↔ W (pj lw) 1 232 (.val (.ref x) :: L) (.ref x :: S) k n H Q := W_s (rfl : (pj lw).1 1 231 = some (.aload_n 0, 1, 0)) rfl rfl rfl
theorem w1_232 {a : Nat} : W (pj lw) 1 232 L (.ref a :: S) k n H Q ↔ (isO H a = true ∧ W (pj lw) 1 235 L (fld H a 9 :: S) k n H Q) := W_getf (rfl : (pj lw).1 1 232 = some (.getfield 26, 3, 9))
theorem w1_235 {x : Int32} {l0 l1 l2 l3 l4 : Slot} : W (pj lw) 1 235 (l0 :: l1 :: l2 :: l3 :: l4 :: .val (.int x) :: L) S k n H Q ↔ W (pj lw) 1 237 (l0 :: l1 :: l2 :: l3 :: l4 :: .val (.int x) :: L) (.int x :: S) k n H Q := W_s (rfl : (pj lw).1 1 235 = some (.iload 5, 2, 0)) rfl rfl rfl
theorem w1_237 : W (pj lw) 1 237 L S k n H Q ↔ W (pj lw) 1 239 L (.int (-2) :: S) k n H Q := W_s (rfl : (pj lw).1 1 237 = some (.bipush (-2), 2, 0)) rfl rfl rfl
theorem w1_239 {x i : Int32} {a : Nat} : W (pj lw) 1 239 L (.int x :: .int i :: .ref a :: S) k n H Q ↔ (inAw H a .int i = true ∧ W (pj lw) 1 240 L S k n (wr H a i.toNatClampNeg (.int x)) Q) := W_iastore (rfl : (pj lw).1 1 239 = some (.iastore, 1, 0))
theorem w1_240 {x : Nat} : W (pj lw) 1 240 (.val (.ref x) :: L) S k n H Q ↔ W (pj lw) 1 241 (.val (.ref x) :: L) (.ref x :: S) k n H Q := W_s (rfl : (pj lw).1 1 240 = some (.aload_n 0, 1, 0)) rfl rfl rfl
theorem w1_241 {a : Nat} : W (pj lw) 1 241 L (.ref a :: S) k n H Q ↔ (isO H a = true ∧ W (pj lw) 1 244 L (fld H a 10 :: S) k n H Q) := W_getf (rfl : (pj lw).1 1 241 = some (.getfield 29, 3, 10))
theorem w1_244 {x : Int32} {l0 l1 l2 l3 l4 : Slot} : W (pj lw) 1 244 (l0 :: l1 :: l2 :: l3 :: l4 :: .val (.int x) :: L) S k n H Q ↔ W (pj lw) 1 246 (l0 :: l1 :: l2 :: l3 :: l4 :: .val (.int x) :: L) (.int x :: S) k n H Q := W_s (rfl : (pj lw).1 1 244 = some (.iload 5, 2, 0)) rfl rfl rfl
theorem w1_246 : W (pj lw) 1 246 L S k n H Q ↔ W (pj lw) 1 247 L (.int (-1) :: S) k n H Q := W_s (rfl : (pj lw).1 1 246 = some (.iconst (-1), 1, 0)) rfl rfl rfl
theorem w1_247 {x i : Int32} {a : Nat} : W (pj lw) 1 247 L (.int x :: .int i :: .ref a :: S) k n H Q ↔ (inAw H a .int i = true ∧ W (pj lw) 1 248 L S k n (wr H a i.toNatClampNeg (.int x)) Q) := W_iastore (rfl : (pj lw).1 1 247 = some (.iastore, 1, 0))
theorem w1_248 {x : Nat} : W (pj lw) 1 248 (.val (.ref x) :: L) S k n H Q ↔ W (pj lw) 1 249 (.val (.ref x) :: L) (.ref x :: S) k n H Q := W_s (rfl : (pj lw).1 1 248 = some (.aload_n 0, 1, 0)) rfl rfl rfl
theorem w1_249 {a : Nat} : W (pj lw) 1 249 L (.ref a :: S) k n H Q ↔ (isO H a = true ∧ W (pj lw) 1 252 L (fld H a 11 :: S) k n H Q) := W_getf (rfl : (pj lw).1 1 249 = some (.getfield 32, 3, 11))
theorem w1_252 {x : Int32} {l0 l1 l2 l3 l4 : Slot} : W (pj lw) 1 252 (l0 :: l1 :: l2 :: l3 :: l4 :: .val (.int x) :: L) S k n H Q ↔ W (pj lw) 1 254 (l0 :: l1 :: l2 :: l3 :: l4 :: .val (.int x) :: L) (.int x :: S) k n H Q := W_s (rfl : (pj lw).1 1 252 = some (.iload 5, 2, 0)) rfl rfl rfl
theorem w1_254 : W (pj lw) 1 254 L S k n H Q ↔ W (pj lw) 1 255 L (.int (-1) :: S) k n H Q := W_s (rfl : (pj lw).1 1 254 = some (.iconst (-1), 1, 0)) rfl rfl rfl
theorem w1_255 {x i : Int32} {a : Nat} : W (pj lw) 1 255 L (.int x :: .int i :: .ref a :: S) k n H Q ↔ (inAw H a .int i = true ∧ W (pj lw) 1 256 L S k n (wr H a i.toNatClampNeg (.int x)) Q) := W_iastore (rfl : (pj lw).1 1 255 = some (.iastore, 1, 0))
theorem w1_256 {x : Int32} {l0 l1 l2 l3 l4 : Slot} : W (pj lw) 1 256 (l0 :: l1 :: l2 :: l3 :: l4 :: .val (.int x) :: L) S k n H Q ↔ W (pj lw) 1 259 (l0 :: l1 :: l2 :: l3 :: l4 :: .val (.int (x + 1)) :: L) S k n H Q := W_s (rfl : (pj lw).1 1 256 = some (.iinc 5 1, 3, 0)) rfl rfl rfl
theorem w1_259 : W (pj lw) 1 259 L S k n H Q ↔ W (pj lw) 1 183 L S k n H Q := W_goto (rfl : (pj lw).1 1 259 = some (.goto (-76), 3, 0)) rfl
theorem w1_262 {x : Nat} : W (pj lw) 1 262 (.val (.ref x) :: L) S k n H Q ↔ W (pj lw) 1 263 (.val (.ref x) :: L) (.ref x :: S) k n H Q := W_s (rfl : (pj lw).1 1 262 = some (.aload_n 0, 1, 0)) rfl rfl rfl
theorem w1_263 : W (pj lw) 1 263 L S k n H Q ↔ W (pj lw) 1 264 L (.int 0 :: S) k n H Q := W_s (rfl : (pj lw).1 1 263 = some (.iconst 0, 1, 0)) rfl rfl rfl
theorem w1_264 {a : Nat} {v : Value} : W (pj lw) 1 264 L (v :: .ref a :: S) k n H Q ↔ ((isOw H a = true ∧ okv (.int) v = true) ∧ W (pj lw) 1 267 L S k n (wr H a 18 v) Q) := W_putf (rfl : (pj lw).1 1 264 = some (.putfield 70, 3, 18))
theorem w1_267 {x : Nat} : W (pj lw) 1 267 (.val (.ref x) :: L) S k n H Q ↔ W (pj lw) 1 268 (.val (.ref x) :: L) (.ref x :: S) k n H Q := W_s (rfl : (pj lw).1 1 267 = some (.aload_n 0, 1, 0)) rfl rfl rfl
theorem w1_268 : W (pj lw) 1 268 L S k n H Q ↔ W (pj lw) 1 269 L (.int 0 :: S) k n H Q := W_s (rfl : (pj lw).1 1 268 = some (.iconst 0, 1, 0)) rfl rfl rfl
theorem w1_269 {a : Nat} {v : Value} : W (pj lw) 1 269 L (v :: .ref a :: S) k n H Q ↔ ((isOw H a = true ∧ okv (.int) v = true) ∧ W (pj lw) 1 272 L S k n (wr H a 19 v) Q) := W_putf (rfl : (pj lw).1 1 269 = some (.putfield 73, 3, 19))
theorem w1_272 {x : Nat} : W (pj lw) 1 272 (.val (.ref x) :: L) S k n H Q ↔ W (pj lw) 1 273 (.val (.ref x) :: L) (.ref x :: S) k n H Q := W_s (rfl : (pj lw).1 1 272 = some (.aload_n 0, 1, 0)) rfl rfl rfl
theorem w1_273 : W (pj lw) 1 273 L S k n H Q ↔ W (pj lw) 1 274 L (.int 0 :: S) k n H Q := W_s (rfl : (pj lw).1 1 273 = some (.iconst 0, 1, 0)) rfl rfl rfl
theorem w1_274 {a : Nat} {v : Value} : W (pj lw) 1 274 L (v :: .ref a :: S) k n H Q ↔ ((isOw H a = true ∧ okv (.int) v = true) ∧ W (pj lw) 1 277 L S k n (wr H a 20 v) Q) := W_putf (rfl : (pj lw).1 1 274 = some (.putfield 76, 3, 20))
theorem w1_277 {x : Nat} : W (pj lw) 1 277 (.val (.ref x) :: L) S k n H Q ↔ W (pj lw) 1 278 (.val (.ref x) :: L) (.ref x :: S) k n H Q := W_s (rfl : (pj lw).1 1 277 = some (.aload_n 0, 1, 0)) rfl rfl rfl
theorem w1_278 : W (pj lw) 1 278 L S k n H Q ↔ W (pj lw) 1 279 L (.int 0 :: S) k n H Q := W_s (rfl : (pj lw).1 1 278 = some (.iconst 0, 1, 0)) rfl rfl rfl
theorem w1_279 {a : Nat} {v : Value} : W (pj lw) 1 279 L (v :: .ref a :: S) k n H Q ↔ ((isOw H a = true ∧ okv (.int) v = true) ∧ W (pj lw) 1 282 L S k n (wr H a 21 v) Q) := W_putf (rfl : (pj lw).1 1 279 = some (.putfield 79, 3, 21))
theorem w1_282 {x : Nat} : W (pj lw) 1 282 (.val (.ref x) :: L) S k n H Q ↔ W (pj lw) 1 283 (.val (.ref x) :: L) (.ref x :: S) k n H Q := W_s (rfl : (pj lw).1 1 282 = some (.aload_n 0, 1, 0)) rfl rfl rfl
theorem w1_283 : W (pj lw) 1 283 L S k n H Q ↔ W (pj lw) 1 284 L (.int 0 :: S) k n H Q := W_s (rfl : (pj lw).1 1 283 = some (.iconst 0, 1, 0)) rfl rfl rfl
theorem w1_284 {a : Nat} {v : Value} : W (pj lw) 1 284 L (v :: .ref a :: S) k n H Q ↔ ((isOw H a = true ∧ okv (.int) v = true) ∧ W (pj lw) 1 287 L S k n (wr H a 22 v) Q) := W_putf (rfl : (pj lw).1 1 284 = some (.putfield 82, 3, 22))
theorem w1_287 {x : Nat} : W (pj lw) 1 287 (.val (.ref x) :: L) S k n H Q ↔ W (pj lw) 1 288 (.val (.ref x) :: L) (.ref x :: S) k n H Q := W_s (rfl : (pj lw).1 1 287 = some (.aload_n 0, 1, 0)) rfl rfl rfl
theorem w1_288 : W (pj lw) 1 288 L S k n H Q ↔ W (pj lw) 1 289 L (.int 1 :: S) k n H Q := W_s (rfl : (pj lw).1 1 288 = some (.iconst 1, 1, 0)) rfl rfl rfl
theorem w1_289 {a : Nat} {v : Value} : W (pj lw) 1 289 L (v :: .ref a :: S) k n H Q ↔ ((isOw H a = true ∧ okv (.int) v = true) ∧ W (pj lw) 1 292 L S k n (wr H a 23 v) Q) := W_putf (rfl : (pj lw).1 1 289 = some (.putfield 85, 3, 23))
theorem w1_292 : W (pj lw) 1 292 L [] k n H Q ↔ Q none H := W_r (rfl : (pj lw).1 1 292 = some (.return_, 1, 0)) rfl
theorem c2 {x0 : Nat} {x1 : Int32} : Cl (pj lw) 2 [.ref x0, .int x1] H Q ↔ W (pj lw) 2 0 [.val (.ref x0), .val (.int x1)] [] 0 0 H Q := cl_unf rfl
theorem w2_0 {x : Nat} : W (pj lw) 2 0 (.val (.ref x) :: L) S k n H Q ↔ W (pj lw) 2 1 (.val (.ref x) :: L) (.ref x :: S) k n H Q := W_s (rfl : (pj lw).1 2 0 = some (.aload_n 0, 1, 0)) rfl rfl rfl
theorem w2_1 {x : Int32} {l0 : Slot} : W (pj lw) 2 1 (l0 :: .val (.int x) :: L) S k n H Q ↔ W (pj lw) 2 2 (l0 :: .val (.int x) :: L) (.int x :: S) k n H Q := W_s (rfl : (pj lw).1 2 1 = some (.iload_n 1, 1, 0)) rfl rfl rfl
theorem w2_2 {a : Nat} {v : Value} : W (pj lw) 2 2 L (v :: .ref a :: S) k n H Q ↔ ((isOw H a = true ∧ okv (.int) v = true) ∧ W (pj lw) 2 5 L S k n (wr H a 23 v) Q) := W_putf (rfl : (pj lw).1 2 2 = some (.putfield 85, 3, 23))
theorem w2_5 : W (pj lw) 2 5 L [] k n H Q ↔ Q none H := W_r (rfl : (pj lw).1 2 5 = some (.return_, 1, 0)) rfl
theorem c3 {x0 : Nat} {x1 : Int32} : Cl (pj lw) 3 [.ref x0, .int x1] H Q ↔ W (pj lw) 3 0 [.val (.ref x0), .val (.int x1)] [] 0 0 H Q := cl_unf rfl
theorem w3_0 {x : Nat} : W (pj lw) 3 0 (.val (.ref x) :: L) S k n H Q ↔ W (pj lw) 3 1 (.val (.ref x) :: L) (.ref x :: S) k n H Q := W_s (rfl : (pj lw).1 3 0 = some (.aload_n 0, 1, 0)) rfl rfl rfl
theorem w3_1 {x : Nat} : W (pj lw) 3 1 (.val (.ref x) :: L) S k n H Q ↔ W (pj lw) 3 2 (.val (.ref x) :: L) (.ref x :: S) k n H Q := W_s (rfl : (pj lw).1 3 1 = some (.aload_n 0, 1, 0)) rfl rfl rfl
theorem w3_2 {x : Int32} {l0 : Slot} : W (pj lw) 3 2 (l0 :: .val (.int x) :: L) S k n H Q ↔ W (pj lw) 3 3 (l0 :: .val (.int x) :: L) (.int x :: S) k n H Q := W_s (rfl : (pj lw).1 3 2 = some (.iload_n 1, 1, 0)) rfl rfl rfl
theorem w3_3 : W (pj lw) 3 3 L S k n H Q ↔ W (pj lw) 3 4 L (.int 0 :: S) k n H Q := W_s (rfl : (pj lw).1 3 3 = some (.iconst 0, 1, 0)) rfl rfl rfl
theorem w3_4 : W (pj lw) 3 4 L S k n H Q ↔ W (pj lw) 3 6 L (.int 16 :: S) k n H Q := W_s (rfl : (pj lw).1 3 4 = some (.bipush 16, 2, 0)) rfl rfl rfl
theorem w3_6 {a : Nat} {x0 : Int32} {x1 : Int32} {x2 : Int32} : W (pj lw) 3 6 L (.int x2 :: .int x1 :: .int x0 :: .ref a :: S) k n H Q ↔ ((isO H a = true ∧ cs S + (4 + 11) + 0 ≤ 16) ∧ Cl (pj lw) 17 [.ref a, .int x0, .int x1, .int x2] H (fun v H => W (pj lw) 3 9 L (v.toList ++ S) k n H Q)) := W_inst (as := [.int x0, .int x1, .int x2]) (rfl : (pj lw).1 3 6 = some (.invokevirtual 53, 3, 17)) rfl rfl rfl (Nat.le_of_ble_eq_true rfl) (Nat.le_of_ble_eq_true rfl) ⟨rfl, rfl⟩
theorem w3_9 {a : Nat} {v : Value} : W (pj lw) 3 9 L (v :: .ref a :: S) k n H Q ↔ ((isOw H a = true ∧ okv (.int) v = true) ∧ W (pj lw) 3 12 L S k n (wr H a 19 v) Q) := W_putf (rfl : (pj lw).1 3 9 = some (.putfield 73, 3, 19))
theorem w3_12 {x : Nat} : W (pj lw) 3 12 (.val (.ref x) :: L) S k n H Q ↔ W (pj lw) 3 13 (.val (.ref x) :: L) (.ref x :: S) k n H Q := W_s (rfl : (pj lw).1 3 12 = some (.aload_n 0, 1, 0)) rfl rfl rfl
theorem w3_13 {a : Nat} : W (pj lw) 3 13 L (.ref a :: S) k n H Q ↔ (isO H a = true ∧ W (pj lw) 3 16 L (fld H a 19 :: S) k n H Q) := W_getf (rfl : (pj lw).1 3 13 = some (.getfield 73, 3, 19))
theorem w3_16 {x : Int32} : W (pj lw) 3 16 L (.int x :: S) k n H Q ↔ Q (some (.int x)) H := W_r (rfl : (pj lw).1 3 16 = some (.ireturn, 1, 0)) rfl
theorem c4 {x0 : Nat} {x1 : Int32} {x2 : Int32} {x3 : Int32} : Cl (pj lw) 4 [.ref x0, .int x1, .int x2, .int x3] H Q ↔ W (pj lw) 4 0 [.val (.ref x0), .val (.int x1), .val (.int x2), .val (.int x3), .unset] [] 0 0 H Q := cl_unf rfl
theorem w4_0 {x : Nat} : W (pj lw) 4 0 (.val (.ref x) :: L) S k n H Q ↔ W (pj lw) 4 1 (.val (.ref x) :: L) (.ref x :: S) k n H Q := W_s (rfl : (pj lw).1 4 0 = some (.aload_n 0, 1, 0)) rfl rfl rfl
theorem w4_1 {x : Int32} {l0 : Slot} : W (pj lw) 4 1 (l0 :: .val (.int x) :: L) S k n H Q ↔ W (pj lw) 4 2 (l0 :: .val (.int x) :: L) (.int x :: S) k n H Q := W_s (rfl : (pj lw).1 4 1 = some (.iload_n 1, 1, 0)) rfl rfl rfl
theorem w4_2 {a : Nat} {x0 : Int32} : W (pj lw) 4 2 L (.int x0 :: .ref a :: S) k n H Q ↔ ((isO H a = true ∧ cs S + (2 + 11) + 0 ≤ 17) ∧ Cl (pj lw) 18 [.ref a, .int x0] H (fun v H => W (pj lw) 4 5 L (v.toList ++ S) k n H Q)) := W_inst (as := [.int x0]) (rfl : (pj lw).1 4 2 = some (.invokevirtual 88, 3, 18)) rfl rfl rfl (Nat.le_of_ble_eq_true rfl) (Nat.le_of_ble_eq_true rfl) ⟨rfl, rfl⟩
theorem w4_5 {x : Int32} : W (pj lw) 4 5 L (.int x :: S) k n H Q ↔ (if x = 0 then W (pj lw) 4 16 L S k n H Q else W (pj lw) 4 8 L S k n H Q) := W_if_eq (rfl : (pj lw).1 4 5 = some (.ifCond .eq 11, 3, 0)) rfl
theorem w4_8 {x : Nat} : W (pj lw) 4 8 (.val (.ref x) :: L) S k n H Q ↔ W (pj lw) 4 9 (.val (.ref x) :: L) (.ref x :: S) k n H Q := W_s (rfl : (pj lw).1 4 8 = some (.aload_n 0, 1, 0)) rfl rfl rfl
theorem w4_9 {x : Int32} {l0 l1 : Slot} : W (pj lw) 4 9 (l0 :: l1 :: .val (.int x) :: L) S k n H Q ↔ W (pj lw) 4 10 (l0 :: l1 :: .val (.int x) :: L) (.int x :: S) k n H Q := W_s (rfl : (pj lw).1 4 9 = some (.iload_n 2, 1, 0)) rfl rfl rfl
theorem w4_10 {a : Nat} {x0 : Int32} : W (pj lw) 4 10 L (.int x0 :: .ref a :: S) k n H Q ↔ ((isO H a = true ∧ cs S + (2 + 11) + 0 ≤ 17) ∧ Cl (pj lw) 18 [.ref a, .int x0] H (fun v H => W (pj lw) 4 13 L (v.toList ++ S) k n H Q)) := W_inst (as := [.int x0]) (rfl : (pj lw).1 4 10 = some (.invokevirtual 88, 3, 18)) rfl rfl rfl (Nat.le_of_ble_eq_true rfl) (Nat.le_of_ble_eq_true rfl) ⟨rfl, rfl⟩
theorem w4_13 {x : Int32} : W (pj lw) 4 13 L (.int x :: S) k n H Q ↔ (if x = 0 then W (pj lw) 4 16 L S k n H Q else W (pj lw) 4 18 L S k n H Q) := W_if_ne (rfl : (pj lw).1 4 13 = some (.ifCond .ne 5, 3, 0)) rfl
theorem w4_16 : W (pj lw) 4 16 L S k n H Q ↔ W (pj lw) 4 17 L (.int (-1) :: S) k n H Q := W_s (rfl : (pj lw).1 4 16 = some (.iconst (-1), 1, 0)) rfl rfl rfl
theorem w4_17 {x : Int32} : W (pj lw) 4 17 L (.int x :: S) k n H Q ↔ Q (some (.int x)) H := W_r (rfl : (pj lw).1 4 17 = some (.ireturn, 1, 0)) rfl
theorem w4_18 {x : Int32} {l0 : Slot} : W (pj lw) 4 18 (l0 :: .val (.int x) :: L) S k n H Q ↔ W (pj lw) 4 19 (l0 :: .val (.int x) :: L) (.int x :: S) k n H Q := W_s (rfl : (pj lw).1 4 18 = some (.iload_n 1, 1, 0)) rfl rfl rfl
theorem w4_19 {x : Int32} {l0 l1 : Slot} : W (pj lw) 4 19 (l0 :: l1 :: .val (.int x) :: L) S k n H Q ↔ W (pj lw) 4 20 (l0 :: l1 :: .val (.int x) :: L) (.int x :: S) k n H Q := W_s (rfl : (pj lw).1 4 19 = some (.iload_n 2, 1, 0)) rfl rfl rfl
theorem w4_20 {x y : Int32} : W (pj lw) 4 20 L (.int y :: .int x :: S) k n H Q ↔ (if x = y then W (pj lw) 4 23 L S k n H Q else W (pj lw) 4 25 L S k n H Q) := W_icmp_ne (rfl : (pj lw).1 4 20 = some (.if_icmp .ne 5, 3, 0)) rfl
theorem w4_23 : W (pj lw) 4 23 L S k n H Q ↔ W (pj lw) 4 24 L (.int (-1) :: S) k n H Q := W_s (rfl : (pj lw).1 4 23 = some (.iconst (-1), 1, 0)) rfl rfl rfl
theorem w4_24 {x : Int32} : W (pj lw) 4 24 L (.int x :: S) k n H Q ↔ Q (some (.int x)) H := W_r (rfl : (pj lw).1 4 24 = some (.ireturn, 1, 0)) rfl
theorem w4_25 {x : Int32} {l0 l1 l2 : Slot} : W (pj lw) 4 25 (l0 :: l1 :: l2 :: .val (.int x) :: L) S k n H Q ↔ W (pj lw) 4 26 (l0 :: l1 :: l2 :: .val (.int x) :: L) (.int x :: S) k n H Q := W_s (rfl : (pj lw).1 4 25 = some (.iload_n 3, 1, 0)) rfl rfl rfl
theorem w4_26 : W (pj lw) 4 26 L S k n H Q ↔ W (pj lw) 4 27 L (.int 1 :: S) k n H Q := W_s (rfl : (pj lw).1 4 26 = some (.iconst 1, 1, 0)) rfl rfl rfl
theorem w4_27 {x y : Int32} : W (pj lw) 4 27 L (.int y :: .int x :: S) k n H Q ↔ (if x < y then W (pj lw) 4 37 L S k n H Q else W (pj lw) 4 30 L S k n H Q) := W_icmp_lt (rfl : (pj lw).1 4 27 = some (.if_icmp .lt 10, 3, 0)) rfl
theorem w4_30 {x : Int32} {l0 l1 l2 : Slot} : W (pj lw) 4 30 (l0 :: l1 :: l2 :: .val (.int x) :: L) S k n H Q ↔ W (pj lw) 4 31 (l0 :: l1 :: l2 :: .val (.int x) :: L) (.int x :: S) k n H Q := W_s (rfl : (pj lw).1 4 30 = some (.iload_n 3, 1, 0)) rfl rfl rfl
theorem w4_31 : W (pj lw) 4 31 L S k n H Q ↔ W (pj lw) 4 34 L (.int 1000 :: S) k n H Q := W_s (rfl : (pj lw).1 4 31 = some (.sipush 1000, 3, 0)) rfl rfl rfl
theorem w4_34 {x y : Int32} : W (pj lw) 4 34 L (.int y :: .int x :: S) k n H Q ↔ (if y < x then W (pj lw) 4 37 L S k n H Q else W (pj lw) 4 39 L S k n H Q) := W_icmp_le (rfl : (pj lw).1 4 34 = some (.if_icmp .le 5, 3, 0)) rfl
theorem w4_37 : W (pj lw) 4 37 L S k n H Q ↔ W (pj lw) 4 38 L (.int (-1) :: S) k n H Q := W_s (rfl : (pj lw).1 4 37 = some (.iconst (-1), 1, 0)) rfl rfl rfl
theorem w4_38 {x : Int32} : W (pj lw) 4 38 L (.int x :: S) k n H Q ↔ Q (some (.int x)) H := W_r (rfl : (pj lw).1 4 38 = some (.ireturn, 1, 0)) rfl
theorem w4_39 {x : Nat} : W (pj lw) 4 39 (.val (.ref x) :: L) S k n H Q ↔ W (pj lw) 4 40 (.val (.ref x) :: L) (.ref x :: S) k n H Q := W_s (rfl : (pj lw).1 4 39 = some (.aload_n 0, 1, 0)) rfl rfl rfl
theorem w4_40 {x : Int32} {l0 : Slot} : W (pj lw) 4 40 (l0 :: .val (.int x) :: L) S k n H Q ↔ W (pj lw) 4 41 (l0 :: .val (.int x) :: L) (.int x :: S) k n H Q := W_s (rfl : (pj lw).1 4 40 = some (.iload_n 1, 1, 0)) rfl rfl rfl
theorem w4_41 {x : Int32} {l0 l1 : Slot} : W (pj lw) 4 41 (l0 :: l1 :: .val (.int x) :: L) S k n H Q ↔ W (pj lw) 4 42 (l0 :: l1 :: .val (.int x) :: L) (.int x :: S) k n H Q := W_s (rfl : (pj lw).1 4 41 = some (.iload_n 2, 1, 0)) rfl rfl rfl
theorem w4_42 {a : Nat} {x0 : Int32} {x1 : Int32} : W (pj lw) 4 42 L (.int x1 :: .int x0 :: .ref a :: S) k n H Q ↔ ((isO H a = true ∧ cs S + (6 + 11) + 0 ≤ 17) ∧ Cl (pj lw) 20 [.ref a, .int x0, .int x1] H (fun v H => W (pj lw) 4 45 L (v.toList ++ S) k n H Q)) := W_inst (as := [.int x0, .int x1]) (rfl : (pj lw).1 4 42 = some (.invokevirtual 92, 3, 20)) rfl rfl rfl (Nat.le_of_ble_eq_true rfl) (Nat.le_of_ble_eq_true rfl) ⟨rfl, rfl⟩
theorem w4_45 {x : Int32} : W (pj lw) 4 45 L (.int x :: S) k n H Q ↔ (if x = 0 then W (pj lw) 4 50 L S k n H Q else W (pj lw) 4 48 L S k n H Q) := W_if_eq (rfl : (pj lw).1 4 45 = some (.ifCond .eq 5, 3, 0)) rfl
theorem w4_48 : W (pj lw) 4 48 L S k n H Q ↔ W (pj lw) 4 49 L (.int (-1) :: S) k n H Q := W_s (rfl : (pj lw).1 4 48 = some (.iconst (-1), 1, 0)) rfl rfl rfl
theorem w4_49 {x : Int32} : W (pj lw) 4 49 L (.int x :: S) k n H Q ↔ Q (some (.int x)) H := W_r (rfl : (pj lw).1 4 49 = some (.ireturn, 1, 0)) rfl
theorem w4_50 {x : Nat} : W (pj lw) 4 50 (.val (.ref x) :: L) S k n H Q ↔ W (pj lw) 4 51 (.val (.ref x) :: L) (.ref x :: S) k n H Q := W_s (rfl : (pj lw).1 4 50 = some (.aload_n 0, 1, 0)) rfl rfl rfl
theorem w4_51 {a : Nat} : W (pj lw) 4 51 L (.ref a :: S) k n H Q ↔ (isO H a = true ∧ W (pj lw) 4 54 L (fld H a 18 :: S) k n H Q) := W_getf (rfl : (pj lw).1 4 51 = some (.getfield 70, 3, 18))
theorem w4_54 : W (pj lw) 4 54 L S k n H Q ↔ W (pj lw) 4 57 L (.int 256 :: S) k n H Q := W_s (rfl : (pj lw).1 4 54 = some (.sipush 256, 3, 0)) rfl rfl rfl
theorem w4_57 {x y : Int32} : W (pj lw) 4 57 L (.int y :: .int x :: S) k n H Q ↔ (if x < y then W (pj lw) 4 62 L S k n H Q else W (pj lw) 4 60 L S k n H Q) := W_icmp_lt (rfl : (pj lw).1 4 57 = some (.if_icmp .lt 5, 3, 0)) rfl
theorem w4_60 : W (pj lw) 4 60 L S k n H Q ↔ W (pj lw) 4 61 L (.int (-1) :: S) k n H Q := W_s (rfl : (pj lw).1 4 60 = some (.iconst (-1), 1, 0)) rfl rfl rfl
theorem w4_61 {x : Int32} : W (pj lw) 4 61 L (.int x :: S) k n H Q ↔ Q (some (.int x)) H := W_r (rfl : (pj lw).1 4 61 = some (.ireturn, 1, 0)) rfl
theorem w4_62 {x : Nat} : W (pj lw) 4 62 (.val (.ref x) :: L) S k n H Q ↔ W (pj lw) 4 63 (.val (.ref x) :: L) (.ref x :: S) k n H Q := W_s (rfl : (pj lw).1 4 62 = some (.aload_n 0, 1, 0)) rfl rfl rfl
theorem w4_63 {a : Nat} : W (pj lw) 4 63 L (.ref a :: S) k n H Q ↔ (isO H a = true ∧ W (pj lw) 4 66 L (fld H a 18 :: S) k n H Q) := W_getf (rfl : (pj lw).1 4 63 = some (.getfield 70, 3, 18))
theorem w4_66 {x : Int32} {l0 l1 l2 l3 : Slot} : W (pj lw) 4 66 (l0 :: l1 :: l2 :: l3 :: .unset :: L) (.int x :: S) k n H Q ↔ W (pj lw) 4 68 (l0 :: l1 :: l2 :: l3 :: .val (.int x) :: L) S k n H Q := W_ist (rfl : (pj lw).1 4 66 = some (.istore 4, 2, 0)) rfl rfl
theorem w4_68 {x : Nat} : W (pj lw) 4 68 (.val (.ref x) :: L) S k n H Q ↔ W (pj lw) 4 69 (.val (.ref x) :: L) (.ref x :: S) k n H Q := W_s (rfl : (pj lw).1 4 68 = some (.aload_n 0, 1, 0)) rfl rfl rfl
theorem w4_69 {a : Nat} : W (pj lw) 4 69 L (.ref a :: S) k n H Q ↔ (isO H a = true ∧ W (pj lw) 4 72 L (fld H a 15 :: S) k n H Q) := W_getf (rfl : (pj lw).1 4 69 = some (.getfield 44, 3, 15))
theorem w4_72 {x : Int32} {l0 l1 l2 l3 : Slot} : W (pj lw) 4 72 (l0 :: l1 :: l2 :: l3 :: .val (.int x) :: L) S k n H Q ↔ W (pj lw) 4 74 (l0 :: l1 :: l2 :: l3 :: .val (.int x) :: L) (.int x :: S) k n H Q := W_s (rfl : (pj lw).1 4 72 = some (.iload 4, 2, 0)) rfl rfl rfl
theorem w4_74 {x : Int32} {l0 : Slot} : W (pj lw) 4 74 (l0 :: .val (.int x) :: L) S k n H Q ↔ W (pj lw) 4 75 (l0 :: .val (.int x) :: L) (.int x :: S) k n H Q := W_s (rfl : (pj lw).1 4 74 = some (.iload_n 1, 1, 0)) rfl rfl rfl
theorem w4_75 {x i : Int32} {a : Nat} : W (pj lw) 4 75 L (.int x :: .int i :: .ref a :: S) k n H Q ↔ (inAw H a .int i = true ∧ W (pj lw) 4 76 L S k n (wr H a i.toNatClampNeg (.int x)) Q) := W_iastore (rfl : (pj lw).1 4 75 = some (.iastore, 1, 0))
theorem w4_76 {x : Nat} : W (pj lw) 4 76 (.val (.ref x) :: L) S k n H Q ↔ W (pj lw) 4 77 (.val (.ref x) :: L) (.ref x :: S) k n H Q := W_s (rfl : (pj lw).1 4 76 = some (.aload_n 0, 1, 0)) rfl rfl rfl
theorem w4_77 {a : Nat} : W (pj lw) 4 77 L (.ref a :: S) k n H Q ↔ (isO H a = true ∧ W (pj lw) 4 80 L (fld H a 16 :: S) k n H Q) := W_getf (rfl : (pj lw).1 4 77 = some (.getfield 47, 3, 16))
theorem w4_80 {x : Int32} {l0 l1 l2 l3 : Slot} : W (pj lw) 4 80 (l0 :: l1 :: l2 :: l3 :: .val (.int x) :: L) S k n H Q ↔ W (pj lw) 4 82 (l0 :: l1 :: l2 :: l3 :: .val (.int x) :: L) (.int x :: S) k n H Q := W_s (rfl : (pj lw).1 4 80 = some (.iload 4, 2, 0)) rfl rfl rfl
theorem w4_82 {x : Int32} {l0 l1 : Slot} : W (pj lw) 4 82 (l0 :: l1 :: .val (.int x) :: L) S k n H Q ↔ W (pj lw) 4 83 (l0 :: l1 :: .val (.int x) :: L) (.int x :: S) k n H Q := W_s (rfl : (pj lw).1 4 82 = some (.iload_n 2, 1, 0)) rfl rfl rfl
theorem w4_83 {x i : Int32} {a : Nat} : W (pj lw) 4 83 L (.int x :: .int i :: .ref a :: S) k n H Q ↔ (inAw H a .int i = true ∧ W (pj lw) 4 84 L S k n (wr H a i.toNatClampNeg (.int x)) Q) := W_iastore (rfl : (pj lw).1 4 83 = some (.iastore, 1, 0))
theorem w4_84 {x : Nat} : W (pj lw) 4 84 (.val (.ref x) :: L) S k n H Q ↔ W (pj lw) 4 85 (.val (.ref x) :: L) (.ref x :: S) k n H Q := W_s (rfl : (pj lw).1 4 84 = some (.aload_n 0, 1, 0)) rfl rfl rfl
theorem w4_85 {a : Nat} : W (pj lw) 4 85 L (.ref a :: S) k n H Q ↔ (isO H a = true ∧ W (pj lw) 4 88 L (fld H a 17 :: S) k n H Q) := W_getf (rfl : (pj lw).1 4 85 = some (.getfield 50, 3, 17))
theorem w4_88 {x : Int32} {l0 l1 l2 l3 : Slot} : W (pj lw) 4 88 (l0 :: l1 :: l2 :: l3 :: .val (.int x) :: L) S k n H Q ↔ W (pj lw) 4 90 (l0 :: l1 :: l2 :: l3 :: .val (.int x) :: L) (.int x :: S) k n H Q := W_s (rfl : (pj lw).1 4 88 = some (.iload 4, 2, 0)) rfl rfl rfl
theorem w4_90 {x : Int32} {l0 l1 l2 : Slot} : W (pj lw) 4 90 (l0 :: l1 :: l2 :: .val (.int x) :: L) S k n H Q ↔ W (pj lw) 4 91 (l0 :: l1 :: l2 :: .val (.int x) :: L) (.int x :: S) k n H Q := W_s (rfl : (pj lw).1 4 90 = some (.iload_n 3, 1, 0)) rfl rfl rfl
theorem w4_91 {x i : Int32} {a : Nat} : W (pj lw) 4 91 L (.int x :: .int i :: .ref a :: S) k n H Q ↔ (inAw H a .int i = true ∧ W (pj lw) 4 92 L S k n (wr H a i.toNatClampNeg (.int x)) Q) := W_iastore (rfl : (pj lw).1 4 91 = some (.iastore, 1, 0))
theorem w4_92 {x : Nat} : W (pj lw) 4 92 (.val (.ref x) :: L) S k n H Q ↔ W (pj lw) 4 93 (.val (.ref x) :: L) (.ref x :: S) k n H Q := W_s (rfl : (pj lw).1 4 92 = some (.aload_n 0, 1, 0)) rfl rfl rfl
theorem w4_93 {x : Int32} {l0 l1 l2 l3 : Slot} : W (pj lw) 4 93 (l0 :: l1 :: l2 :: l3 :: .val (.int x) :: L) S k n H Q ↔ W (pj lw) 4 95 (l0 :: l1 :: l2 :: l3 :: .val (.int x) :: L) (.int x :: S) k n H Q := W_s (rfl : (pj lw).1 4 93 = some (.iload 4, 2, 0)) rfl rfl rfl
theorem w4_95 : W (pj lw) 4 95 L S k n H Q ↔ W (pj lw) 4 96 L (.int 1 :: S) k n H Q := W_s (rfl : (pj lw).1 4 95 = some (.iconst 1, 1, 0)) rfl rfl rfl
theorem w4_96 {x y : Int32} : W (pj lw) 4 96 L (.int y :: .int x :: S) k n H Q ↔ W (pj lw) 4 97 L (.int (x + y) :: S) k n H Q := W_s (rfl : (pj lw).1 4 96 = some (.iadd, 1, 0)) rfl rfl rfl
theorem w4_97 {a : Nat} {v : Value} : W (pj lw) 4 97 L (v :: .ref a :: S) k n H Q ↔ ((isOw H a = true ∧ okv (.int) v = true) ∧ W (pj lw) 4 100 L S k n (wr H a 18 v) Q) := W_putf (rfl : (pj lw).1 4 97 = some (.putfield 70, 3, 18))
theorem w4_100 {x : Int32} {l0 l1 l2 l3 : Slot} : W (pj lw) 4 100 (l0 :: l1 :: l2 :: l3 :: .val (.int x) :: L) S k n H Q ↔ W (pj lw) 4 102 (l0 :: l1 :: l2 :: l3 :: .val (.int x) :: L) (.int x :: S) k n H Q := W_s (rfl : (pj lw).1 4 100 = some (.iload 4, 2, 0)) rfl rfl rfl
theorem w4_102 {x : Int32} : W (pj lw) 4 102 L (.int x :: S) k n H Q ↔ Q (some (.int x)) H := W_r (rfl : (pj lw).1 4 102 = some (.ireturn, 1, 0)) rfl
theorem c5 {x0 : Nat} {x1 : Int32} : Cl (pj lw) 5 [.ref x0, .int x1] H Q ↔ W (pj lw) 5 0 [.val (.ref x0), .val (.int x1)] [] 0 0 H Q := cl_unf rfl
theorem w5_0 {x : Nat} : W (pj lw) 5 0 (.val (.ref x) :: L) S k n H Q ↔ W (pj lw) 5 1 (.val (.ref x) :: L) (.ref x :: S) k n H Q := W_s (rfl : (pj lw).1 5 0 = some (.aload_n 0, 1, 0)) rfl rfl rfl
theorem w5_1 {x : Int32} {l0 : Slot} : W (pj lw) 5 1 (l0 :: .val (.int x) :: L) S k n H Q ↔ W (pj lw) 5 2 (l0 :: .val (.int x) :: L) (.int x :: S) k n H Q := W_s (rfl : (pj lw).1 5 1 = some (.iload_n 1, 1, 0)) rfl rfl rfl
theorem w5_2 {a : Nat} {x0 : Int32} : W (pj lw) 5 2 L (.int x0 :: .ref a :: S) k n H Q ↔ ((isO H a = true ∧ cs S + (2 + 11) + 0 ≤ 13) ∧ Cl (pj lw) 18 [.ref a, .int x0] H (fun v H => W (pj lw) 5 5 L (v.toList ++ S) k n H Q)) := W_inst (as := [.int x0]) (rfl : (pj lw).1 5 2 = some (.invokevirtual 88, 3, 18)) rfl rfl rfl (Nat.le_of_ble_eq_true rfl) (Nat.le_of_ble_eq_true rfl) ⟨rfl, rfl⟩
theorem w5_5 {x : Int32} : W (pj lw) 5 5 L (.int x :: S) k n H Q ↔ (if x = 0 then W (pj lw) 5 8 L S k n H Q else W (pj lw) 5 10 L S k n H Q) := W_if_ne (rfl : (pj lw).1 5 5 = some (.ifCond .ne 5, 3, 0)) rfl
theorem w5_8 : W (pj lw) 5 8 L S k n H Q ↔ W (pj lw) 5 9 L (.int 0 :: S) k n H Q := W_s (rfl : (pj lw).1 5 8 = some (.iconst 0, 1, 0)) rfl rfl rfl
theorem w5_9 {x : Int32} : W (pj lw) 5 9 L (.int x :: S) k n H Q ↔ ((x = 0 ∨ x = 1) ∧ Q (some (.int x)) H) := W_rz (rfl : (pj lw).1 5 9 = some (.ireturn, 1, 0)) rfl
theorem w5_10 {x : Nat} : W (pj lw) 5 10 (.val (.ref x) :: L) S k n H Q ↔ W (pj lw) 5 11 (.val (.ref x) :: L) (.ref x :: S) k n H Q := W_s (rfl : (pj lw).1 5 10 = some (.aload_n 0, 1, 0)) rfl rfl rfl
theorem w5_11 {a : Nat} : W (pj lw) 5 11 L (.ref a :: S) k n H Q ↔ (isO H a = true ∧ W (pj lw) 5 14 L (fld H a 4 :: S) k n H Q) := W_getf (rfl : (pj lw).1 5 11 = some (.getfield 7, 3, 4))
theorem w5_14 {x : Int32} {l0 : Slot} : W (pj lw) 5 14 (l0 :: .val (.int x) :: L) S k n H Q ↔ W (pj lw) 5 15 (l0 :: .val (.int x) :: L) (.int x :: S) k n H Q := W_s (rfl : (pj lw).1 5 14 = some (.iload_n 1, 1, 0)) rfl rfl rfl
theorem w5_15 {i : Int32} {a : Nat} : W (pj lw) 5 15 L (.int i :: .ref a :: S) k n H Q ↔ (inA H a .int i = true ∧ W (pj lw) 5 16 L (elt H a i :: S) k n H Q) := W_iaload (rfl : (pj lw).1 5 15 = some (.iaload, 1, 0))
theorem w5_16 {x : Int32} : W (pj lw) 5 16 L (.int x :: S) k n H Q ↔ (if x = 0 then W (pj lw) 5 21 L S k n H Q else W (pj lw) 5 19 L S k n H Q) := W_if_eq (rfl : (pj lw).1 5 16 = some (.ifCond .eq 5, 3, 0)) rfl
theorem w5_19 : W (pj lw) 5 19 L S k n H Q ↔ W (pj lw) 5 20 L (.int 0 :: S) k n H Q := W_s (rfl : (pj lw).1 5 19 = some (.iconst 0, 1, 0)) rfl rfl rfl
theorem w5_20 {x : Int32} : W (pj lw) 5 20 L (.int x :: S) k n H Q ↔ ((x = 0 ∨ x = 1) ∧ Q (some (.int x)) H) := W_rz (rfl : (pj lw).1 5 20 = some (.ireturn, 1, 0)) rfl
theorem w5_21 {x : Nat} : W (pj lw) 5 21 (.val (.ref x) :: L) S k n H Q ↔ W (pj lw) 5 22 (.val (.ref x) :: L) (.ref x :: S) k n H Q := W_s (rfl : (pj lw).1 5 21 = some (.aload_n 0, 1, 0)) rfl rfl rfl
theorem w5_22 {a : Nat} : W (pj lw) 5 22 L (.ref a :: S) k n H Q ↔ (isO H a = true ∧ W (pj lw) 5 25 L (fld H a 4 :: S) k n H Q) := W_getf (rfl : (pj lw).1 5 22 = some (.getfield 7, 3, 4))
theorem w5_25 {x : Int32} {l0 : Slot} : W (pj lw) 5 25 (l0 :: .val (.int x) :: L) S k n H Q ↔ W (pj lw) 5 26 (l0 :: .val (.int x) :: L) (.int x :: S) k n H Q := W_s (rfl : (pj lw).1 5 25 = some (.iload_n 1, 1, 0)) rfl rfl rfl
theorem w5_26 : W (pj lw) 5 26 L S k n H Q ↔ W (pj lw) 5 27 L (.int 2 :: S) k n H Q := W_s (rfl : (pj lw).1 5 26 = some (.iconst 2, 1, 0)) rfl rfl rfl
theorem w5_27 {x i : Int32} {a : Nat} : W (pj lw) 5 27 L (.int x :: .int i :: .ref a :: S) k n H Q ↔ (inAw H a .int i = true ∧ W (pj lw) 5 28 L S k n (wr H a i.toNatClampNeg (.int x)) Q) := W_iastore (rfl : (pj lw).1 5 27 = some (.iastore, 1, 0))
theorem w5_28 {x : Nat} : W (pj lw) 5 28 (.val (.ref x) :: L) S k n H Q ↔ W (pj lw) 5 29 (.val (.ref x) :: L) (.ref x :: S) k n H Q := W_s (rfl : (pj lw).1 5 28 = some (.aload_n 0, 1, 0)) rfl rfl rfl
theorem w5_29 {a : Nat} : W (pj lw) 5 29 L (.ref a :: S) k n H Q ↔ (isO H a = true ∧ W (pj lw) 5 32 L (fld H a 5 :: S) k n H Q) := W_getf (rfl : (pj lw).1 5 29 = some (.getfield 13, 3, 5))
theorem w5_32 {x : Int32} {l0 : Slot} : W (pj lw) 5 32 (l0 :: .val (.int x) :: L) S k n H Q ↔ W (pj lw) 5 33 (l0 :: .val (.int x) :: L) (.int x :: S) k n H Q := W_s (rfl : (pj lw).1 5 32 = some (.iload_n 1, 1, 0)) rfl rfl rfl
theorem w5_33 {x : Nat} : W (pj lw) 5 33 (.val (.ref x) :: L) S k n H Q ↔ W (pj lw) 5 34 (.val (.ref x) :: L) (.ref x :: S) k n H Q := W_s (rfl : (pj lw).1 5 33 = some (.aload_n 0, 1, 0)) rfl rfl rfl
theorem w5_34 {a : Nat} : W (pj lw) 5 34 L (.ref a :: S) k n H Q ↔ (isO H a = true ∧ W (pj lw) 5 37 L (fld H a 2 :: S) k n H Q) := W_getf (rfl : (pj lw).1 5 34 = some (.getfield 64, 3, 2))
theorem w5_37 {x i : Int32} {a : Nat} : W (pj lw) 5 37 L (.int x :: .int i :: .ref a :: S) k n H Q ↔ (inAw H a .int i = true ∧ W (pj lw) 5 38 L S k n (wr H a i.toNatClampNeg (.int x)) Q) := W_iastore (rfl : (pj lw).1 5 37 = some (.iastore, 1, 0))
theorem w5_38 {x : Nat} : W (pj lw) 5 38 (.val (.ref x) :: L) S k n H Q ↔ W (pj lw) 5 39 (.val (.ref x) :: L) (.ref x :: S) k n H Q := W_s (rfl : (pj lw).1 5 38 = some (.aload_n 0, 1, 0)) rfl rfl rfl
theorem w5_39 {a : Nat} : W (pj lw) 5 39 L (.ref a :: S) k n H Q ↔ (isO H a = true ∧ W (pj lw) 5 42 L (fld H a 9 :: S) k n H Q) := W_getf (rfl : (pj lw).1 5 39 = some (.getfield 26, 3, 9))
theorem w5_42 {x : Int32} {l0 : Slot} : W (pj lw) 5 42 (l0 :: .val (.int x) :: L) S k n H Q ↔ W (pj lw) 5 43 (l0 :: .val (.int x) :: L) (.int x :: S) k n H Q := W_s (rfl : (pj lw).1 5 42 = some (.iload_n 1, 1, 0)) rfl rfl rfl
theorem w5_43 : W (pj lw) 5 43 L S k n H Q ↔ W (pj lw) 5 44 L (.int (-1) :: S) k n H Q := W_s (rfl : (pj lw).1 5 43 = some (.iconst (-1), 1, 0)) rfl rfl rfl
theorem w5_44 {x i : Int32} {a : Nat} : W (pj lw) 5 44 L (.int x :: .int i :: .ref a :: S) k n H Q ↔ (inAw H a .int i = true ∧ W (pj lw) 5 45 L S k n (wr H a i.toNatClampNeg (.int x)) Q) := W_iastore (rfl : (pj lw).1 5 44 = some (.iastore, 1, 0))
theorem w5_45 {x : Nat} : W (pj lw) 5 45 (.val (.ref x) :: L) S k n H Q ↔ W (pj lw) 5 46 (.val (.ref x) :: L) (.ref x :: S) k n H Q := W_s (rfl : (pj lw).1 5 45 = some (.aload_n 0, 1, 0)) rfl rfl rfl
theorem w5_46 {a : Nat} : W (pj lw) 5 46 L (.ref a :: S) k n H Q ↔ (isO H a = true ∧ W (pj lw) 5 49 L (fld H a 10 :: S) k n H Q) := W_getf (rfl : (pj lw).1 5 46 = some (.getfield 29, 3, 10))
theorem w5_49 {x : Int32} {l0 : Slot} : W (pj lw) 5 49 (l0 :: .val (.int x) :: L) S k n H Q ↔ W (pj lw) 5 50 (l0 :: .val (.int x) :: L) (.int x :: S) k n H Q := W_s (rfl : (pj lw).1 5 49 = some (.iload_n 1, 1, 0)) rfl rfl rfl
theorem w5_50 {x : Nat} : W (pj lw) 5 50 (.val (.ref x) :: L) S k n H Q ↔ W (pj lw) 5 51 (.val (.ref x) :: L) (.ref x :: S) k n H Q := W_s (rfl : (pj lw).1 5 50 = some (.aload_n 0, 1, 0)) rfl rfl rfl
theorem w5_51 {a : Nat} : W (pj lw) 5 51 L (.ref a :: S) k n H Q ↔ (isO H a = true ∧ W (pj lw) 5 54 L (fld H a 22 :: S) k n H Q) := W_getf (rfl : (pj lw).1 5 51 = some (.getfield 82, 3, 22))
theorem w5_54 {x i : Int32} {a : Nat} : W (pj lw) 5 54 L (.int x :: .int i :: .ref a :: S) k n H Q ↔ (inAw H a .int i = true ∧ W (pj lw) 5 55 L S k n (wr H a i.toNatClampNeg (.int x)) Q) := W_iastore (rfl : (pj lw).1 5 54 = some (.iastore, 1, 0))
theorem w5_55 {x : Nat} : W (pj lw) 5 55 (.val (.ref x) :: L) S k n H Q ↔ W (pj lw) 5 56 (.val (.ref x) :: L) (.ref x :: S) k n H Q := W_s (rfl : (pj lw).1 5 55 = some (.aload_n 0, 1, 0)) rfl rfl rfl
theorem w5_56 {a : Nat} : W (pj lw) 5 56 L (.ref a :: S) k n H Q ↔ (isO H a = true ∧ W (pj lw) 5 59 L (fld H a 11 :: S) k n H Q) := W_getf (rfl : (pj lw).1 5 56 = some (.getfield 32, 3, 11))
theorem w5_59 {x : Int32} {l0 : Slot} : W (pj lw) 5 59 (l0 :: .val (.int x) :: L) S k n H Q ↔ W (pj lw) 5 60 (l0 :: .val (.int x) :: L) (.int x :: S) k n H Q := W_s (rfl : (pj lw).1 5 59 = some (.iload_n 1, 1, 0)) rfl rfl rfl
theorem w5_60 : W (pj lw) 5 60 L S k n H Q ↔ W (pj lw) 5 61 L (.int 0 :: S) k n H Q := W_s (rfl : (pj lw).1 5 60 = some (.iconst 0, 1, 0)) rfl rfl rfl
theorem w5_61 {x i : Int32} {a : Nat} : W (pj lw) 5 61 L (.int x :: .int i :: .ref a :: S) k n H Q ↔ (inAw H a .int i = true ∧ W (pj lw) 5 62 L S k n (wr H a i.toNatClampNeg (.int x)) Q) := W_iastore (rfl : (pj lw).1 5 61 = some (.iastore, 1, 0))
theorem w5_62 : W (pj lw) 5 62 L S k n H Q ↔ W (pj lw) 5 63 L (.int 1 :: S) k n H Q := W_s (rfl : (pj lw).1 5 62 = some (.iconst 1, 1, 0)) rfl rfl rfl
theorem w5_63 {x : Int32} : W (pj lw) 5 63 L (.int x :: S) k n H Q ↔ ((x = 0 ∨ x = 1) ∧ Q (some (.int x)) H) := W_rz (rfl : (pj lw).1 5 63 = some (.ireturn, 1, 0)) rfl
theorem c6 {x0 : Nat} {x1 : Int32} : Cl (pj lw) 6 [.ref x0, .int x1] H Q ↔ W (pj lw) 6 0 [.val (.ref x0), .val (.int x1)] [] 0 0 H Q := cl_unf rfl
theorem w6_0 {x : Nat} : W (pj lw) 6 0 (.val (.ref x) :: L) S k n H Q ↔ W (pj lw) 6 1 (.val (.ref x) :: L) (.ref x :: S) k n H Q := W_s (rfl : (pj lw).1 6 0 = some (.aload_n 0, 1, 0)) rfl rfl rfl
theorem w6_1 {x : Int32} {l0 : Slot} : W (pj lw) 6 1 (l0 :: .val (.int x) :: L) S k n H Q ↔ W (pj lw) 6 2 (l0 :: .val (.int x) :: L) (.int x :: S) k n H Q := W_s (rfl : (pj lw).1 6 1 = some (.iload_n 1, 1, 0)) rfl rfl rfl
theorem w6_2 {a : Nat} {x0 : Int32} : W (pj lw) 6 2 L (.int x0 :: .ref a :: S) k n H Q ↔ ((isO H a = true ∧ cs S + (2 + 11) + 0 ≤ 13) ∧ Cl (pj lw) 18 [.ref a, .int x0] H (fun v H => W (pj lw) 6 5 L (v.toList ++ S) k n H Q)) := W_inst (as := [.int x0]) (rfl : (pj lw).1 6 2 = some (.invokevirtual 88, 3, 18)) rfl rfl rfl (Nat.le_of_ble_eq_true rfl) (Nat.le_of_ble_eq_true rfl) ⟨rfl, rfl⟩
theorem w6_5 {x : Int32} : W (pj lw) 6 5 L (.int x :: S) k n H Q ↔ (if x = 0 then W (pj lw) 6 8 L S k n H Q else W (pj lw) 6 10 L S k n H Q) := W_if_ne (rfl : (pj lw).1 6 5 = some (.ifCond .ne 5, 3, 0)) rfl
theorem w6_8 : W (pj lw) 6 8 L S k n H Q ↔ W (pj lw) 6 9 L (.int 0 :: S) k n H Q := W_s (rfl : (pj lw).1 6 8 = some (.iconst 0, 1, 0)) rfl rfl rfl
theorem w6_9 {x : Int32} : W (pj lw) 6 9 L (.int x :: S) k n H Q ↔ ((x = 0 ∨ x = 1) ∧ Q (some (.int x)) H) := W_rz (rfl : (pj lw).1 6 9 = some (.ireturn, 1, 0)) rfl
theorem w6_10 {x : Nat} : W (pj lw) 6 10 (.val (.ref x) :: L) S k n H Q ↔ W (pj lw) 6 11 (.val (.ref x) :: L) (.ref x :: S) k n H Q := W_s (rfl : (pj lw).1 6 10 = some (.aload_n 0, 1, 0)) rfl rfl rfl
theorem w6_11 {a : Nat} : W (pj lw) 6 11 L (.ref a :: S) k n H Q ↔ (isO H a = true ∧ W (pj lw) 6 14 L (fld H a 7 :: S) k n H Q) := W_getf (rfl : (pj lw).1 6 11 = some (.getfield 19, 3, 7))
theorem w6_14 {x : Int32} {l0 : Slot} : W (pj lw) 6 14 (l0 :: .val (.int x) :: L) S k n H Q ↔ W (pj lw) 6 15 (l0 :: .val (.int x) :: L) (.int x :: S) k n H Q := W_s (rfl : (pj lw).1 6 14 = some (.iload_n 1, 1, 0)) rfl rfl rfl
theorem w6_15 {i : Int32} {a : Nat} : W (pj lw) 6 15 L (.int i :: .ref a :: S) k n H Q ↔ ((inA H a .byte i = true ∨ inA H a .boolean i = true) ∧ W (pj lw) 6 16 L (elt H a i :: S) k n H Q) := W_baload (rfl : (pj lw).1 6 15 = some (.baload, 1, 0))
theorem w6_16 {x : Int32} : W (pj lw) 6 16 L (.int x :: S) k n H Q ↔ (if x = 0 then W (pj lw) 6 19 L S k n H Q else W (pj lw) 6 28 L S k n H Q) := W_if_ne (rfl : (pj lw).1 6 16 = some (.ifCond .ne 12, 3, 0)) rfl
theorem w6_19 {x : Nat} : W (pj lw) 6 19 (.val (.ref x) :: L) S k n H Q ↔ W (pj lw) 6 20 (.val (.ref x) :: L) (.ref x :: S) k n H Q := W_s (rfl : (pj lw).1 6 19 = some (.aload_n 0, 1, 0)) rfl rfl rfl
theorem w6_20 {a : Nat} : W (pj lw) 6 20 L (.ref a :: S) k n H Q ↔ (isO H a = true ∧ W (pj lw) 6 23 L (fld H a 8 :: S) k n H Q) := W_getf (rfl : (pj lw).1 6 20 = some (.getfield 23, 3, 8))
theorem w6_23 {x : Int32} {l0 : Slot} : W (pj lw) 6 23 (l0 :: .val (.int x) :: L) S k n H Q ↔ W (pj lw) 6 24 (l0 :: .val (.int x) :: L) (.int x :: S) k n H Q := W_s (rfl : (pj lw).1 6 23 = some (.iload_n 1, 1, 0)) rfl rfl rfl
theorem w6_24 {i : Int32} {a : Nat} : W (pj lw) 6 24 L (.int i :: .ref a :: S) k n H Q ↔ ((inA H a .byte i = true ∨ inA H a .boolean i = true) ∧ W (pj lw) 6 25 L (elt H a i :: S) k n H Q) := W_baload (rfl : (pj lw).1 6 24 = some (.baload, 1, 0))
theorem w6_25 {x : Int32} : W (pj lw) 6 25 L (.int x :: S) k n H Q ↔ (if x = 0 then W (pj lw) 6 30 L S k n H Q else W (pj lw) 6 28 L S k n H Q) := W_if_eq (rfl : (pj lw).1 6 25 = some (.ifCond .eq 5, 3, 0)) rfl
theorem w6_28 : W (pj lw) 6 28 L S k n H Q ↔ W (pj lw) 6 29 L (.int 0 :: S) k n H Q := W_s (rfl : (pj lw).1 6 28 = some (.iconst 0, 1, 0)) rfl rfl rfl
theorem w6_29 {x : Int32} : W (pj lw) 6 29 L (.int x :: S) k n H Q ↔ ((x = 0 ∨ x = 1) ∧ Q (some (.int x)) H) := W_rz (rfl : (pj lw).1 6 29 = some (.ireturn, 1, 0)) rfl
theorem w6_30 {x : Nat} : W (pj lw) 6 30 (.val (.ref x) :: L) S k n H Q ↔ W (pj lw) 6 31 (.val (.ref x) :: L) (.ref x :: S) k n H Q := W_s (rfl : (pj lw).1 6 30 = some (.aload_n 0, 1, 0)) rfl rfl rfl
theorem w6_31 {a : Nat} : W (pj lw) 6 31 L (.ref a :: S) k n H Q ↔ (isO H a = true ∧ W (pj lw) 6 34 L (fld H a 8 :: S) k n H Q) := W_getf (rfl : (pj lw).1 6 31 = some (.getfield 23, 3, 8))
theorem w6_34 {x : Int32} {l0 : Slot} : W (pj lw) 6 34 (l0 :: .val (.int x) :: L) S k n H Q ↔ W (pj lw) 6 35 (l0 :: .val (.int x) :: L) (.int x :: S) k n H Q := W_s (rfl : (pj lw).1 6 34 = some (.iload_n 1, 1, 0)) rfl rfl rfl
theorem w6_35 : W (pj lw) 6 35 L S k n H Q ↔ W (pj lw) 6 36 L (.int 1 :: S) k n H Q := W_s (rfl : (pj lw).1 6 35 = some (.iconst 1, 1, 0)) rfl rfl rfl
theorem w6_36 {x i : Int32} {a : Nat} : W (pj lw) 6 36 L (.int x :: .int i :: .ref a :: S) k n H Q ↔ (((inAw H a .byte i = true ∧ okv .byte (.int x) = true) ∨ (inAw H a .boolean i = true ∧ okv .boolean (.int x) = true)) ∧ W (pj lw) 6 37 L S k n (wr H a i.toNatClampNeg (.int x)) Q) := W_bastore (rfl : (pj lw).1 6 36 = some (.bastore, 1, 0))
theorem w6_37 : W (pj lw) 6 37 L S k n H Q ↔ W (pj lw) 6 38 L (.int 1 :: S) k n H Q := W_s (rfl : (pj lw).1 6 37 = some (.iconst 1, 1, 0)) rfl rfl rfl
theorem w6_38 {x : Int32} : W (pj lw) 6 38 L (.int x :: S) k n H Q ↔ ((x = 0 ∨ x = 1) ∧ Q (some (.int x)) H) := W_rz (rfl : (pj lw).1 6 38 = some (.ireturn, 1, 0)) rfl
theorem c7 {x0 : Nat} {x1 : Int32} : Cl (pj lw) 7 [.ref x0, .int x1] H Q ↔ W (pj lw) 7 0 [.val (.ref x0), .val (.int x1), .unset, .unset] [] 0 0 H Q := cl_unf rfl
theorem w7_0 {x : Nat} : W (pj lw) 7 0 (.val (.ref x) :: L) S k n H Q ↔ W (pj lw) 7 1 (.val (.ref x) :: L) (.ref x :: S) k n H Q := W_s (rfl : (pj lw).1 7 0 = some (.aload_n 0, 1, 0)) rfl rfl rfl
theorem w7_1 {x : Int32} {l0 : Slot} : W (pj lw) 7 1 (l0 :: .val (.int x) :: L) S k n H Q ↔ W (pj lw) 7 2 (l0 :: .val (.int x) :: L) (.int x :: S) k n H Q := W_s (rfl : (pj lw).1 7 1 = some (.iload_n 1, 1, 0)) rfl rfl rfl
theorem w7_2 : W (pj lw) 7 2 L S k n H Q ↔ W (pj lw) 7 3 L (.int 0 :: S) k n H Q := W_s (rfl : (pj lw).1 7 2 = some (.iconst 0, 1, 0)) rfl rfl rfl
theorem w7_3 : W (pj lw) 7 3 L S k n H Q ↔ W (pj lw) 7 5 L (.int 8 :: S) k n H Q := W_s (rfl : (pj lw).1 7 3 = some (.bipush 8, 2, 0)) rfl rfl rfl
theorem w7_5 {a : Nat} {x0 : Int32} {x1 : Int32} {x2 : Int32} : W (pj lw) 7 5 L (.int x2 :: .int x1 :: .int x0 :: .ref a :: S) k n H Q ↔ ((isO H a = true ∧ cs S + (4 + 11) + 0 ≤ 55) ∧ Cl (pj lw) 17 [.ref a, .int x0, .int x1, .int x2] H (fun v H => W (pj lw) 7 8 L (v.toList ++ S) k n H Q)) := W_inst (as := [.int x0, .int x1, .int x2]) (rfl : (pj lw).1 7 5 = some (.invokevirtual 53, 3, 17)) rfl rfl rfl (Nat.le_of_ble_eq_true rfl) (Nat.le_of_ble_eq_true rfl) ⟨rfl, rfl⟩
theorem w7_8 {x : Int32} {l0 l1 : Slot} : W (pj lw) 7 8 (l0 :: l1 :: .unset :: L) (.int x :: S) k n H Q ↔ W (pj lw) 7 9 (l0 :: l1 :: .val (.int x) :: L) S k n H Q := W_istn (rfl : (pj lw).1 7 8 = some (.istore_n 2, 1, 0)) rfl rfl
theorem w7_9 : W (pj lw) 7 9 L S k n H Q ↔ W (pj lw) 7 10 L (.int 0 :: S) k n H Q := W_s (rfl : (pj lw).1 7 9 = some (.iconst 0, 1, 0)) rfl rfl rfl
theorem w7_10 {x : Int32} {l0 l1 l2 : Slot} : W (pj lw) 7 10 (l0 :: l1 :: l2 :: .unset :: L) (.int x :: S) k n H Q ↔ W (pj lw) 7 11 (l0 :: l1 :: l2 :: .val (.int x) :: L) S k n H Q := W_istn (rfl : (pj lw).1 7 10 = some (.istore_n 3, 1, 0)) rfl rfl
theorem w7_11 {x : Int32} {l0 l1 l2 : Slot} : W (pj lw) 7 11 (l0 :: l1 :: l2 :: .val (.int x) :: L) S k n H Q ↔ W (pj lw) 7 12 (l0 :: l1 :: l2 :: .val (.int x) :: L) (.int x :: S) k n H Q := W_s (rfl : (pj lw).1 7 11 = some (.iload_n 3, 1, 0)) rfl rfl rfl
theorem w7_12 {x : Int32} {l0 l1 : Slot} : W (pj lw) 7 12 (l0 :: l1 :: .val (.int x) :: L) S k n H Q ↔ W (pj lw) 7 13 (l0 :: l1 :: .val (.int x) :: L) (.int x :: S) k n H Q := W_s (rfl : (pj lw).1 7 12 = some (.iload_n 2, 1, 0)) rfl rfl rfl
theorem w7_13 {x y : Int32} : W (pj lw) 7 13 L (.int y :: .int x :: S) k n H Q ↔ (if x < y then W (pj lw) 7 16 L S k n H Q else W (pj lw) 7 26 L S k n H Q) := W_icmp_ge (rfl : (pj lw).1 7 13 = some (.if_icmp .ge 13, 3, 0)) rfl
theorem w7_16 {x : Nat} : W (pj lw) 7 16 (.val (.ref x) :: L) S k n H Q ↔ W (pj lw) 7 17 (.val (.ref x) :: L) (.ref x :: S) k n H Q := W_s (rfl : (pj lw).1 7 16 = some (.aload_n 0, 1, 0)) rfl rfl rfl
theorem w7_17 {a : Nat} : W (pj lw) 7 17 L (.ref a :: S) k n H Q ↔ ((isO H a = true ∧ cs S + (1 + 11) + 43 ≤ 55) ∧ Cl (pj lw) 21 [.ref a] H (fun v H => W (pj lw) 7 20 L (v.toList ++ S) k n H Q)) := W_inst (as := []) (rfl : (pj lw).1 7 17 = some (.invokevirtual 96, 3, 21)) rfl rfl rfl (Nat.le_of_ble_eq_true rfl) (Nat.le_of_ble_eq_true rfl) ⟨rfl, rfl⟩
theorem w7_20 {x : Int32} {l0 l1 l2 : Slot} : W (pj lw) 7 20 (l0 :: l1 :: l2 :: .val (.int x) :: L) S k n H Q ↔ W (pj lw) 7 23 (l0 :: l1 :: l2 :: .val (.int (x + 1)) :: L) S k n H Q := W_s (rfl : (pj lw).1 7 20 = some (.iinc 3 1, 3, 0)) rfl rfl rfl
theorem w7_23 : W (pj lw) 7 23 L S k n H Q ↔ W (pj lw) 7 11 L S k n H Q := W_goto (rfl : (pj lw).1 7 23 = some (.goto (-12), 3, 0)) rfl
theorem w7_26 {x : Nat} : W (pj lw) 7 26 (.val (.ref x) :: L) S k n H Q ↔ W (pj lw) 7 27 (.val (.ref x) :: L) (.ref x :: S) k n H Q := W_s (rfl : (pj lw).1 7 26 = some (.aload_n 0, 1, 0)) rfl rfl rfl
theorem w7_27 {a : Nat} : W (pj lw) 7 27 L (.ref a :: S) k n H Q ↔ (isO H a = true ∧ W (pj lw) 7 30 L (fld H a 22 :: S) k n H Q) := W_getf (rfl : (pj lw).1 7 27 = some (.getfield 82, 3, 22))
theorem w7_30 {x : Int32} : W (pj lw) 7 30 L (.int x :: S) k n H Q ↔ Q (some (.int x)) H := W_r (rfl : (pj lw).1 7 30 = some (.ireturn, 1, 0)) rfl
theorem c8 {x0 : Nat} {x1 : Int32} : Cl (pj lw) 8 [.ref x0, .int x1] H Q ↔ W (pj lw) 8 0 [.val (.ref x0), .val (.int x1)] [] 0 0 H Q := cl_unf rfl
theorem w8_0 {x : Nat} : W (pj lw) 8 0 (.val (.ref x) :: L) S k n H Q ↔ W (pj lw) 8 1 (.val (.ref x) :: L) (.ref x :: S) k n H Q := W_s (rfl : (pj lw).1 8 0 = some (.aload_n 0, 1, 0)) rfl rfl rfl
theorem w8_1 {x : Int32} {l0 : Slot} : W (pj lw) 8 1 (l0 :: .val (.int x) :: L) S k n H Q ↔ W (pj lw) 8 2 (l0 :: .val (.int x) :: L) (.int x :: S) k n H Q := W_s (rfl : (pj lw).1 8 1 = some (.iload_n 1, 1, 0)) rfl rfl rfl
theorem w8_2 {a : Nat} {x0 : Int32} : W (pj lw) 8 2 L (.int x0 :: .ref a :: S) k n H Q ↔ ((isO H a = true ∧ cs S + (2 + 11) + 0 ≤ 13) ∧ Cl (pj lw) 18 [.ref a, .int x0] H (fun v H => W (pj lw) 8 5 L (v.toList ++ S) k n H Q)) := W_inst (as := [.int x0]) (rfl : (pj lw).1 8 2 = some (.invokevirtual 88, 3, 18)) rfl rfl rfl (Nat.le_of_ble_eq_true rfl) (Nat.le_of_ble_eq_true rfl) ⟨rfl, rfl⟩
theorem w8_5 {x : Int32} : W (pj lw) 8 5 L (.int x :: S) k n H Q ↔ (if x = 0 then W (pj lw) 8 17 L S k n H Q else W (pj lw) 8 8 L S k n H Q) := W_if_eq (rfl : (pj lw).1 8 5 = some (.ifCond .eq 12, 3, 0)) rfl
theorem w8_8 {x : Nat} : W (pj lw) 8 8 (.val (.ref x) :: L) S k n H Q ↔ W (pj lw) 8 9 (.val (.ref x) :: L) (.ref x :: S) k n H Q := W_s (rfl : (pj lw).1 8 8 = some (.aload_n 0, 1, 0)) rfl rfl rfl
theorem w8_9 {a : Nat} : W (pj lw) 8 9 L (.ref a :: S) k n H Q ↔ (isO H a = true ∧ W (pj lw) 8 12 L (fld H a 4 :: S) k n H Q) := W_getf (rfl : (pj lw).1 8 9 = some (.getfield 7, 3, 4))
theorem w8_12 {x : Int32} {l0 : Slot} : W (pj lw) 8 12 (l0 :: .val (.int x) :: L) S k n H Q ↔ W (pj lw) 8 13 (l0 :: .val (.int x) :: L) (.int x :: S) k n H Q := W_s (rfl : (pj lw).1 8 12 = some (.iload_n 1, 1, 0)) rfl rfl rfl
theorem w8_13 {i : Int32} {a : Nat} : W (pj lw) 8 13 L (.int i :: .ref a :: S) k n H Q ↔ (inA H a .int i = true ∧ W (pj lw) 8 14 L (elt H a i :: S) k n H Q) := W_iaload (rfl : (pj lw).1 8 13 = some (.iaload, 1, 0))
theorem w8_14 : W (pj lw) 8 14 L S k n H Q ↔ W (pj lw) 8 18 L S k n H Q := W_goto (rfl : (pj lw).1 8 14 = some (.goto 4, 3, 0)) rfl
theorem w8_17 : W (pj lw) 8 17 L S k n H Q ↔ W (pj lw) 8 18 L (.int (-1) :: S) k n H Q := W_s (rfl : (pj lw).1 8 17 = some (.iconst (-1), 1, 0)) rfl rfl rfl
theorem w8_18 {x : Int32} : W (pj lw) 8 18 L (.int x :: S) k n H Q ↔ Q (some (.int x)) H := W_r (rfl : (pj lw).1 8 18 = some (.ireturn, 1, 0)) rfl
theorem c10 {x0 : Nat} {x1 : Int32} : Cl (pj lw) 10 [.ref x0, .int x1] H Q ↔ W (pj lw) 10 0 [.val (.ref x0), .val (.int x1)] [] 0 0 H Q := cl_unf rfl
theorem w10_0 {x : Nat} : W (pj lw) 10 0 (.val (.ref x) :: L) S k n H Q ↔ W (pj lw) 10 1 (.val (.ref x) :: L) (.ref x :: S) k n H Q := W_s (rfl : (pj lw).1 10 0 = some (.aload_n 0, 1, 0)) rfl rfl rfl
theorem w10_1 {x : Int32} {l0 : Slot} : W (pj lw) 10 1 (l0 :: .val (.int x) :: L) S k n H Q ↔ W (pj lw) 10 2 (l0 :: .val (.int x) :: L) (.int x :: S) k n H Q := W_s (rfl : (pj lw).1 10 1 = some (.iload_n 1, 1, 0)) rfl rfl rfl
theorem w10_2 {a : Nat} {x0 : Int32} : W (pj lw) 10 2 L (.int x0 :: .ref a :: S) k n H Q ↔ ((isO H a = true ∧ cs S + (2 + 11) + 0 ≤ 13) ∧ Cl (pj lw) 18 [.ref a, .int x0] H (fun v H => W (pj lw) 10 5 L (v.toList ++ S) k n H Q)) := W_inst (as := [.int x0]) (rfl : (pj lw).1 10 2 = some (.invokevirtual 88, 3, 18)) rfl rfl rfl (Nat.le_of_ble_eq_true rfl) (Nat.le_of_ble_eq_true rfl) ⟨rfl, rfl⟩
theorem w10_5 {x : Int32} : W (pj lw) 10 5 L (.int x :: S) k n H Q ↔ (if x = 0 then W (pj lw) 10 17 L S k n H Q else W (pj lw) 10 8 L S k n H Q) := W_if_eq (rfl : (pj lw).1 10 5 = some (.ifCond .eq 12, 3, 0)) rfl
theorem w10_8 {x : Nat} : W (pj lw) 10 8 (.val (.ref x) :: L) S k n H Q ↔ W (pj lw) 10 9 (.val (.ref x) :: L) (.ref x :: S) k n H Q := W_s (rfl : (pj lw).1 10 8 = some (.aload_n 0, 1, 0)) rfl rfl rfl
theorem w10_9 {a : Nat} : W (pj lw) 10 9 L (.ref a :: S) k n H Q ↔ (isO H a = true ∧ W (pj lw) 10 12 L (fld H a 6 :: S) k n H Q) := W_getf (rfl : (pj lw).1 10 9 = some (.getfield 16, 3, 6))
theorem w10_12 {x : Int32} {l0 : Slot} : W (pj lw) 10 12 (l0 :: .val (.int x) :: L) S k n H Q ↔ W (pj lw) 10 13 (l0 :: .val (.int x) :: L) (.int x :: S) k n H Q := W_s (rfl : (pj lw).1 10 12 = some (.iload_n 1, 1, 0)) rfl rfl rfl
theorem w10_13 {i : Int32} {a : Nat} : W (pj lw) 10 13 L (.int i :: .ref a :: S) k n H Q ↔ (inA H a .int i = true ∧ W (pj lw) 10 14 L (elt H a i :: S) k n H Q) := W_iaload (rfl : (pj lw).1 10 13 = some (.iaload, 1, 0))
theorem w10_14 : W (pj lw) 10 14 L S k n H Q ↔ W (pj lw) 10 18 L S k n H Q := W_goto (rfl : (pj lw).1 10 14 = some (.goto 4, 3, 0)) rfl
theorem w10_17 : W (pj lw) 10 17 L S k n H Q ↔ W (pj lw) 10 18 L (.int (-1) :: S) k n H Q := W_s (rfl : (pj lw).1 10 17 = some (.iconst (-1), 1, 0)) rfl rfl rfl
theorem w10_18 {x : Int32} : W (pj lw) 10 18 L (.int x :: S) k n H Q ↔ Q (some (.int x)) H := W_r (rfl : (pj lw).1 10 18 = some (.ireturn, 1, 0)) rfl
theorem c12 {x0 : Nat} {x1 : Int32} : Cl (pj lw) 12 [.ref x0, .int x1] H Q ↔ W (pj lw) 12 0 [.val (.ref x0), .val (.int x1)] [] 0 0 H Q := cl_unf rfl
theorem w12_0 {x : Nat} : W (pj lw) 12 0 (.val (.ref x) :: L) S k n H Q ↔ W (pj lw) 12 1 (.val (.ref x) :: L) (.ref x :: S) k n H Q := W_s (rfl : (pj lw).1 12 0 = some (.aload_n 0, 1, 0)) rfl rfl rfl
theorem w12_1 {x : Int32} {l0 : Slot} : W (pj lw) 12 1 (l0 :: .val (.int x) :: L) S k n H Q ↔ W (pj lw) 12 2 (l0 :: .val (.int x) :: L) (.int x :: S) k n H Q := W_s (rfl : (pj lw).1 12 1 = some (.iload_n 1, 1, 0)) rfl rfl rfl
theorem w12_2 {a : Nat} {x0 : Int32} : W (pj lw) 12 2 L (.int x0 :: .ref a :: S) k n H Q ↔ ((isO H a = true ∧ cs S + (2 + 11) + 0 ≤ 13) ∧ Cl (pj lw) 18 [.ref a, .int x0] H (fun v H => W (pj lw) 12 5 L (v.toList ++ S) k n H Q)) := W_inst (as := [.int x0]) (rfl : (pj lw).1 12 2 = some (.invokevirtual 88, 3, 18)) rfl rfl rfl (Nat.le_of_ble_eq_true rfl) (Nat.le_of_ble_eq_true rfl) ⟨rfl, rfl⟩
theorem w12_5 {x : Int32} : W (pj lw) 12 5 L (.int x :: S) k n H Q ↔ (if x = 0 then W (pj lw) 12 17 L S k n H Q else W (pj lw) 12 8 L S k n H Q) := W_if_eq (rfl : (pj lw).1 12 5 = some (.ifCond .eq 12, 3, 0)) rfl
theorem w12_8 {x : Nat} : W (pj lw) 12 8 (.val (.ref x) :: L) S k n H Q ↔ W (pj lw) 12 9 (.val (.ref x) :: L) (.ref x :: S) k n H Q := W_s (rfl : (pj lw).1 12 8 = some (.aload_n 0, 1, 0)) rfl rfl rfl
theorem w12_9 {a : Nat} : W (pj lw) 12 9 L (.ref a :: S) k n H Q ↔ (isO H a = true ∧ W (pj lw) 12 12 L (fld H a 9 :: S) k n H Q) := W_getf (rfl : (pj lw).1 12 9 = some (.getfield 26, 3, 9))
theorem w12_12 {x : Int32} {l0 : Slot} : W (pj lw) 12 12 (l0 :: .val (.int x) :: L) S k n H Q ↔ W (pj lw) 12 13 (l0 :: .val (.int x) :: L) (.int x :: S) k n H Q := W_s (rfl : (pj lw).1 12 12 = some (.iload_n 1, 1, 0)) rfl rfl rfl
theorem w12_13 {i : Int32} {a : Nat} : W (pj lw) 12 13 L (.int i :: .ref a :: S) k n H Q ↔ (inA H a .int i = true ∧ W (pj lw) 12 14 L (elt H a i :: S) k n H Q) := W_iaload (rfl : (pj lw).1 12 13 = some (.iaload, 1, 0))
theorem w12_14 : W (pj lw) 12 14 L S k n H Q ↔ W (pj lw) 12 19 L S k n H Q := W_goto (rfl : (pj lw).1 12 14 = some (.goto 5, 3, 0)) rfl
theorem w12_17 : W (pj lw) 12 17 L S k n H Q ↔ W (pj lw) 12 19 L (.int (-2) :: S) k n H Q := W_s (rfl : (pj lw).1 12 17 = some (.bipush (-2), 2, 0)) rfl rfl rfl
theorem w12_19 {x : Int32} : W (pj lw) 12 19 L (.int x :: S) k n H Q ↔ Q (some (.int x)) H := W_r (rfl : (pj lw).1 12 19 = some (.ireturn, 1, 0)) rfl
theorem c13 {x0 : Nat} {x1 : Int32} : Cl (pj lw) 13 [.ref x0, .int x1] H Q ↔ W (pj lw) 13 0 [.val (.ref x0), .val (.int x1)] [] 0 0 H Q := cl_unf rfl
theorem w13_0 {x : Nat} : W (pj lw) 13 0 (.val (.ref x) :: L) S k n H Q ↔ W (pj lw) 13 1 (.val (.ref x) :: L) (.ref x :: S) k n H Q := W_s (rfl : (pj lw).1 13 0 = some (.aload_n 0, 1, 0)) rfl rfl rfl
theorem w13_1 {x : Int32} {l0 : Slot} : W (pj lw) 13 1 (l0 :: .val (.int x) :: L) S k n H Q ↔ W (pj lw) 13 2 (l0 :: .val (.int x) :: L) (.int x :: S) k n H Q := W_s (rfl : (pj lw).1 13 1 = some (.iload_n 1, 1, 0)) rfl rfl rfl
theorem w13_2 {a : Nat} {x0 : Int32} : W (pj lw) 13 2 L (.int x0 :: .ref a :: S) k n H Q ↔ ((isO H a = true ∧ cs S + (2 + 11) + 0 ≤ 13) ∧ Cl (pj lw) 18 [.ref a, .int x0] H (fun v H => W (pj lw) 13 5 L (v.toList ++ S) k n H Q)) := W_inst (as := [.int x0]) (rfl : (pj lw).1 13 2 = some (.invokevirtual 88, 3, 18)) rfl rfl rfl (Nat.le_of_ble_eq_true rfl) (Nat.le_of_ble_eq_true rfl) ⟨rfl, rfl⟩
theorem w13_5 {x : Int32} : W (pj lw) 13 5 L (.int x :: S) k n H Q ↔ (if x = 0 then W (pj lw) 13 17 L S k n H Q else W (pj lw) 13 8 L S k n H Q) := W_if_eq (rfl : (pj lw).1 13 5 = some (.ifCond .eq 12, 3, 0)) rfl
theorem w13_8 {x : Nat} : W (pj lw) 13 8 (.val (.ref x) :: L) S k n H Q ↔ W (pj lw) 13 9 (.val (.ref x) :: L) (.ref x :: S) k n H Q := W_s (rfl : (pj lw).1 13 8 = some (.aload_n 0, 1, 0)) rfl rfl rfl
theorem w13_9 {a : Nat} : W (pj lw) 13 9 L (.ref a :: S) k n H Q ↔ (isO H a = true ∧ W (pj lw) 13 12 L (fld H a 10 :: S) k n H Q) := W_getf (rfl : (pj lw).1 13 9 = some (.getfield 29, 3, 10))
theorem w13_12 {x : Int32} {l0 : Slot} : W (pj lw) 13 12 (l0 :: .val (.int x) :: L) S k n H Q ↔ W (pj lw) 13 13 (l0 :: .val (.int x) :: L) (.int x :: S) k n H Q := W_s (rfl : (pj lw).1 13 12 = some (.iload_n 1, 1, 0)) rfl rfl rfl
theorem w13_13 {i : Int32} {a : Nat} : W (pj lw) 13 13 L (.int i :: .ref a :: S) k n H Q ↔ (inA H a .int i = true ∧ W (pj lw) 13 14 L (elt H a i :: S) k n H Q) := W_iaload (rfl : (pj lw).1 13 13 = some (.iaload, 1, 0))
theorem w13_14 : W (pj lw) 13 14 L S k n H Q ↔ W (pj lw) 13 18 L S k n H Q := W_goto (rfl : (pj lw).1 13 14 = some (.goto 4, 3, 0)) rfl
theorem w13_17 : W (pj lw) 13 17 L S k n H Q ↔ W (pj lw) 13 18 L (.int (-1) :: S) k n H Q := W_s (rfl : (pj lw).1 13 17 = some (.iconst (-1), 1, 0)) rfl rfl rfl
theorem w13_18 {x : Int32} : W (pj lw) 13 18 L (.int x :: S) k n H Q ↔ Q (some (.int x)) H := W_r (rfl : (pj lw).1 13 18 = some (.ireturn, 1, 0)) rfl
theorem c14 {x0 : Nat} {x1 : Int32} : Cl (pj lw) 14 [.ref x0, .int x1] H Q ↔ W (pj lw) 14 0 [.val (.ref x0), .val (.int x1)] [] 0 0 H Q := cl_unf rfl
theorem w14_0 {x : Nat} : W (pj lw) 14 0 (.val (.ref x) :: L) S k n H Q ↔ W (pj lw) 14 1 (.val (.ref x) :: L) (.ref x :: S) k n H Q := W_s (rfl : (pj lw).1 14 0 = some (.aload_n 0, 1, 0)) rfl rfl rfl
theorem w14_1 {x : Int32} {l0 : Slot} : W (pj lw) 14 1 (l0 :: .val (.int x) :: L) S k n H Q ↔ W (pj lw) 14 2 (l0 :: .val (.int x) :: L) (.int x :: S) k n H Q := W_s (rfl : (pj lw).1 14 1 = some (.iload_n 1, 1, 0)) rfl rfl rfl
theorem w14_2 {a : Nat} {x0 : Int32} : W (pj lw) 14 2 L (.int x0 :: .ref a :: S) k n H Q ↔ ((isO H a = true ∧ cs S + (2 + 11) + 0 ≤ 13) ∧ Cl (pj lw) 18 [.ref a, .int x0] H (fun v H => W (pj lw) 14 5 L (v.toList ++ S) k n H Q)) := W_inst (as := [.int x0]) (rfl : (pj lw).1 14 2 = some (.invokevirtual 88, 3, 18)) rfl rfl rfl (Nat.le_of_ble_eq_true rfl) (Nat.le_of_ble_eq_true rfl) ⟨rfl, rfl⟩
theorem w14_5 {x : Int32} : W (pj lw) 14 5 L (.int x :: S) k n H Q ↔ (if x = 0 then W (pj lw) 14 17 L S k n H Q else W (pj lw) 14 8 L S k n H Q) := W_if_eq (rfl : (pj lw).1 14 5 = some (.ifCond .eq 12, 3, 0)) rfl
theorem w14_8 {x : Nat} : W (pj lw) 14 8 (.val (.ref x) :: L) S k n H Q ↔ W (pj lw) 14 9 (.val (.ref x) :: L) (.ref x :: S) k n H Q := W_s (rfl : (pj lw).1 14 8 = some (.aload_n 0, 1, 0)) rfl rfl rfl
theorem w14_9 {a : Nat} : W (pj lw) 14 9 L (.ref a :: S) k n H Q ↔ (isO H a = true ∧ W (pj lw) 14 12 L (fld H a 11 :: S) k n H Q) := W_getf (rfl : (pj lw).1 14 9 = some (.getfield 32, 3, 11))
theorem w14_12 {x : Int32} {l0 : Slot} : W (pj lw) 14 12 (l0 :: .val (.int x) :: L) S k n H Q ↔ W (pj lw) 14 13 (l0 :: .val (.int x) :: L) (.int x :: S) k n H Q := W_s (rfl : (pj lw).1 14 12 = some (.iload_n 1, 1, 0)) rfl rfl rfl
theorem w14_13 {i : Int32} {a : Nat} : W (pj lw) 14 13 L (.int i :: .ref a :: S) k n H Q ↔ (inA H a .int i = true ∧ W (pj lw) 14 14 L (elt H a i :: S) k n H Q) := W_iaload (rfl : (pj lw).1 14 13 = some (.iaload, 1, 0))
theorem w14_14 : W (pj lw) 14 14 L S k n H Q ↔ W (pj lw) 14 18 L S k n H Q := W_goto (rfl : (pj lw).1 14 14 = some (.goto 4, 3, 0)) rfl
theorem w14_17 : W (pj lw) 14 17 L S k n H Q ↔ W (pj lw) 14 18 L (.int (-1) :: S) k n H Q := W_s (rfl : (pj lw).1 14 17 = some (.iconst (-1), 1, 0)) rfl rfl rfl
theorem w14_18 {x : Int32} : W (pj lw) 14 18 L (.int x :: S) k n H Q ↔ Q (some (.int x)) H := W_r (rfl : (pj lw).1 14 18 = some (.ireturn, 1, 0)) rfl
theorem c15 {x0 : Nat} {x1 : Int32} : Cl (pj lw) 15 [.ref x0, .int x1] H Q ↔ W (pj lw) 15 0 [.val (.ref x0), .val (.int x1), .unset, .unset] [] 0 0 H Q := cl_unf rfl
theorem w15_0 {x : Nat} : W (pj lw) 15 0 (.val (.ref x) :: L) S k n H Q ↔ W (pj lw) 15 1 (.val (.ref x) :: L) (.ref x :: S) k n H Q := W_s (rfl : (pj lw).1 15 0 = some (.aload_n 0, 1, 0)) rfl rfl rfl
theorem w15_1 {x : Int32} {l0 : Slot} : W (pj lw) 15 1 (l0 :: .val (.int x) :: L) S k n H Q ↔ W (pj lw) 15 2 (l0 :: .val (.int x) :: L) (.int x :: S) k n H Q := W_s (rfl : (pj lw).1 15 1 = some (.iload_n 1, 1, 0)) rfl rfl rfl
theorem w15_2 {a : Nat} {x0 : Int32} : W (pj lw) 15 2 L (.int x0 :: .ref a :: S) k n H Q ↔ ((isO H a = true ∧ cs S + (2 + 11) + 0 ≤ 13) ∧ Cl (pj lw) 18 [.ref a, .int x0] H (fun v H => W (pj lw) 15 5 L (v.toList ++ S) k n H Q)) := W_inst (as := [.int x0]) (rfl : (pj lw).1 15 2 = some (.invokevirtual 88, 3, 18)) rfl rfl rfl (Nat.le_of_ble_eq_true rfl) (Nat.le_of_ble_eq_true rfl) ⟨rfl, rfl⟩
theorem w15_5 {x : Int32} : W (pj lw) 15 5 L (.int x :: S) k n H Q ↔ (if x = 0 then W (pj lw) 15 8 L S k n H Q else W (pj lw) 15 10 L S k n H Q) := W_if_ne (rfl : (pj lw).1 15 5 = some (.ifCond .ne 5, 3, 0)) rfl
theorem w15_8 : W (pj lw) 15 8 L S k n H Q ↔ W (pj lw) 15 9 L (.int (-1) :: S) k n H Q := W_s (rfl : (pj lw).1 15 8 = some (.iconst (-1), 1, 0)) rfl rfl rfl
theorem w15_9 {x : Int32} : W (pj lw) 15 9 L (.int x :: S) k n H Q ↔ Q (some (.int x)) H := W_r (rfl : (pj lw).1 15 9 = some (.ireturn, 1, 0)) rfl
theorem w15_10 : W (pj lw) 15 10 L S k n H Q ↔ W (pj lw) 15 11 L (.int 0 :: S) k n H Q := W_s (rfl : (pj lw).1 15 10 = some (.iconst 0, 1, 0)) rfl rfl rfl
theorem w15_11 {x : Int32} {l0 l1 : Slot} : W (pj lw) 15 11 (l0 :: l1 :: .unset :: L) (.int x :: S) k n H Q ↔ W (pj lw) 15 12 (l0 :: l1 :: .val (.int x) :: L) S k n H Q := W_istn (rfl : (pj lw).1 15 11 = some (.istore_n 2, 1, 0)) rfl rfl
theorem w15_12 : W (pj lw) 15 12 L S k n H Q ↔ W (pj lw) 15 13 L (.int 0 :: S) k n H Q := W_s (rfl : (pj lw).1 15 12 = some (.iconst 0, 1, 0)) rfl rfl rfl
theorem w15_13 {x : Int32} {l0 l1 l2 : Slot} : W (pj lw) 15 13 (l0 :: l1 :: l2 :: .unset :: L) (.int x :: S) k n H Q ↔ W (pj lw) 15 14 (l0 :: l1 :: l2 :: .val (.int x) :: L) S k n H Q := W_istn (rfl : (pj lw).1 15 13 = some (.istore_n 3, 1, 0)) rfl rfl
theorem w15_14 {x : Int32} {l0 l1 l2 : Slot} : W (pj lw) 15 14 (l0 :: l1 :: l2 :: .val (.int x) :: L) S k n H Q ↔ W (pj lw) 15 15 (l0 :: l1 :: l2 :: .val (.int x) :: L) (.int x :: S) k n H Q := W_s (rfl : (pj lw).1 15 14 = some (.iload_n 3, 1, 0)) rfl rfl rfl
theorem w15_15 {x : Nat} : W (pj lw) 15 15 (.val (.ref x) :: L) S k n H Q ↔ W (pj lw) 15 16 (.val (.ref x) :: L) (.ref x :: S) k n H Q := W_s (rfl : (pj lw).1 15 15 = some (.aload_n 0, 1, 0)) rfl rfl rfl
theorem w15_16 {a : Nat} : W (pj lw) 15 16 L (.ref a :: S) k n H Q ↔ (isO H a = true ∧ W (pj lw) 15 19 L (fld H a 0 :: S) k n H Q) := W_getf (rfl : (pj lw).1 15 16 = some (.getfield 57, 3, 0))
theorem w15_19 {x y : Int32} : W (pj lw) 15 19 L (.int y :: .int x :: S) k n H Q ↔ (if x < y then W (pj lw) 15 22 L S k n H Q else W (pj lw) 15 41 L S k n H Q) := W_icmp_ge (rfl : (pj lw).1 15 19 = some (.if_icmp .ge 22, 3, 0)) rfl
theorem w15_22 {x : Nat} : W (pj lw) 15 22 (.val (.ref x) :: L) S k n H Q ↔ W (pj lw) 15 23 (.val (.ref x) :: L) (.ref x :: S) k n H Q := W_s (rfl : (pj lw).1 15 22 = some (.aload_n 0, 1, 0)) rfl rfl rfl
theorem w15_23 {a : Nat} : W (pj lw) 15 23 L (.ref a :: S) k n H Q ↔ (isO H a = true ∧ W (pj lw) 15 26 L (fld H a 9 :: S) k n H Q) := W_getf (rfl : (pj lw).1 15 23 = some (.getfield 26, 3, 9))
theorem w15_26 {x : Int32} {l0 l1 l2 : Slot} : W (pj lw) 15 26 (l0 :: l1 :: l2 :: .val (.int x) :: L) S k n H Q ↔ W (pj lw) 15 27 (l0 :: l1 :: l2 :: .val (.int x) :: L) (.int x :: S) k n H Q := W_s (rfl : (pj lw).1 15 26 = some (.iload_n 3, 1, 0)) rfl rfl rfl
theorem w15_27 {i : Int32} {a : Nat} : W (pj lw) 15 27 L (.int i :: .ref a :: S) k n H Q ↔ (inA H a .int i = true ∧ W (pj lw) 15 28 L (elt H a i :: S) k n H Q) := W_iaload (rfl : (pj lw).1 15 27 = some (.iaload, 1, 0))
theorem w15_28 {x : Int32} {l0 : Slot} : W (pj lw) 15 28 (l0 :: .val (.int x) :: L) S k n H Q ↔ W (pj lw) 15 29 (l0 :: .val (.int x) :: L) (.int x :: S) k n H Q := W_s (rfl : (pj lw).1 15 28 = some (.iload_n 1, 1, 0)) rfl rfl rfl
theorem w15_29 {x y : Int32} : W (pj lw) 15 29 L (.int y :: .int x :: S) k n H Q ↔ (if x = y then W (pj lw) 15 32 L S k n H Q else W (pj lw) 15 35 L S k n H Q) := W_icmp_ne (rfl : (pj lw).1 15 29 = some (.if_icmp .ne 6, 3, 0)) rfl
theorem w15_32 {x : Int32} {l0 l1 : Slot} : W (pj lw) 15 32 (l0 :: l1 :: .val (.int x) :: L) S k n H Q ↔ W (pj lw) 15 35 (l0 :: l1 :: .val (.int (x + 1)) :: L) S k n H Q := W_s (rfl : (pj lw).1 15 32 = some (.iinc 2 1, 3, 0)) rfl rfl rfl
theorem w15_35 {x : Int32} {l0 l1 l2 : Slot} : W (pj lw) 15 35 (l0 :: l1 :: l2 :: .val (.int x) :: L) S k n H Q ↔ W (pj lw) 15 38 (l0 :: l1 :: l2 :: .val (.int (x + 1)) :: L) S k n H Q := W_s (rfl : (pj lw).1 15 35 = some (.iinc 3 1, 3, 0)) rfl rfl rfl
theorem w15_38 : W (pj lw) 15 38 L S k n H Q ↔ W (pj lw) 15 14 L S k n H Q := W_goto (rfl : (pj lw).1 15 38 = some (.goto (-24), 3, 0)) rfl
theorem w15_41 {x : Int32} {l0 l1 : Slot} : W (pj lw) 15 41 (l0 :: l1 :: .val (.int x) :: L) S k n H Q ↔ W (pj lw) 15 42 (l0 :: l1 :: .val (.int x) :: L) (.int x :: S) k n H Q := W_s (rfl : (pj lw).1 15 41 = some (.iload_n 2, 1, 0)) rfl rfl rfl
theorem w15_42 {x : Int32} : W (pj lw) 15 42 L (.int x :: S) k n H Q ↔ Q (some (.int x)) H := W_r (rfl : (pj lw).1 15 42 = some (.ireturn, 1, 0)) rfl
theorem c16 {x0 : Nat} {x1 : Int32} : Cl (pj lw) 16 [.ref x0, .int x1] H Q ↔ W (pj lw) 16 0 [.val (.ref x0), .val (.int x1)] [] 0 0 H Q := cl_unf rfl
theorem w16_0 {x : Int32} {l0 : Slot} : W (pj lw) 16 0 (l0 :: .val (.int x) :: L) S k n H Q ↔ W (pj lw) 16 1 (l0 :: .val (.int x) :: L) (.int x :: S) k n H Q := W_s (rfl : (pj lw).1 16 0 = some (.iload_n 1, 1, 0)) rfl rfl rfl
theorem w16_1 {x : Int32} : W (pj lw) 16 1 L (.int x :: S) k n H Q ↔ (if x < 0 then W (pj lw) 16 15 L S k n H Q else W (pj lw) 16 4 L S k n H Q) := W_if_lt (rfl : (pj lw).1 16 1 = some (.ifCond .lt 14, 3, 0)) rfl
theorem w16_4 {x : Int32} {l0 : Slot} : W (pj lw) 16 4 (l0 :: .val (.int x) :: L) S k n H Q ↔ W (pj lw) 16 5 (l0 :: .val (.int x) :: L) (.int x :: S) k n H Q := W_s (rfl : (pj lw).1 16 4 = some (.iload_n 1, 1, 0)) rfl rfl rfl
theorem w16_5 : W (pj lw) 16 5 L S k n H Q ↔ W (pj lw) 16 6 L (.int 3 :: S) k n H Q := W_s (rfl : (pj lw).1 16 5 = some (.iconst 3, 1, 0)) rfl rfl rfl
theorem w16_6 {x y : Int32} : W (pj lw) 16 6 L (.int y :: .int x :: S) k n H Q ↔ (if y < x then W (pj lw) 16 15 L S k n H Q else W (pj lw) 16 9 L S k n H Q) := W_icmp_gt (rfl : (pj lw).1 16 6 = some (.if_icmp .gt 9, 3, 0)) rfl
theorem w16_9 {x : Nat} : W (pj lw) 16 9 (.val (.ref x) :: L) S k n H Q ↔ W (pj lw) 16 10 (.val (.ref x) :: L) (.ref x :: S) k n H Q := W_s (rfl : (pj lw).1 16 9 = some (.aload_n 0, 1, 0)) rfl rfl rfl
theorem w16_10 {x : Int32} {l0 : Slot} : W (pj lw) 16 10 (l0 :: .val (.int x) :: L) S k n H Q ↔ W (pj lw) 16 11 (l0 :: .val (.int x) :: L) (.int x :: S) k n H Q := W_s (rfl : (pj lw).1 16 10 = some (.iload_n 1, 1, 0)) rfl rfl rfl
theorem w16_11 {a : Nat} {x0 : Int32} : W (pj lw) 16 11 L (.int x0 :: .ref a :: S) k n H Q ↔ ((isO H a = true ∧ cs S + (4 + 11) + 0 ≤ 16) ∧ Cl (pj lw) 31 [.ref a, .int x0] H (fun v H => W (pj lw) 16 14 L (v.toList ++ S) k n H Q)) := W_inst (as := [.int x0]) (rfl : (pj lw).1 16 11 = some (.invokevirtual 99, 3, 31)) rfl rfl rfl (Nat.le_of_ble_eq_true rfl) (Nat.le_of_ble_eq_true rfl) ⟨rfl, rfl⟩
theorem w16_14 {x : Int32} : W (pj lw) 16 14 L (.int x :: S) k n H Q ↔ Q (some (.int x)) H := W_r (rfl : (pj lw).1 16 14 = some (.ireturn, 1, 0)) rfl
theorem w16_15 {x : Int32} {l0 : Slot} : W (pj lw) 16 15 (l0 :: .val (.int x) :: L) S k n H Q ↔ W (pj lw) 16 16 (l0 :: .val (.int x) :: L) (.int x :: S) k n H Q := W_s (rfl : (pj lw).1 16 15 = some (.iload_n 1, 1, 0)) rfl rfl rfl
theorem w16_16 {x : Int32} : W (pj lw) 16 16 L (.int x :: S) k n H Q ↔ (if x = 4 then W (pj lw) 16 64 L S k n H Q else (if x = 5 then W (pj lw) 16 69 L S k n H Q else (if x = 6 then W (pj lw) 16 75 L S k n H Q else (if x = 7 then W (pj lw) 16 81 L S k n H Q else (if x = 8 then W (pj lw) 16 86 L S k n H Q else (if x = 9 then W (pj lw) 16 91 L S k n H Q else (if x = 10 then W (pj lw) 16 96 L S k n H Q else (if x = 11 then W (pj lw) 16 101 L S k n H Q else W (pj lw) 16 106 L S k n H Q)))))))) := W_tsw (qs := [64, 69, 75, 81, 86, 91, 96, 101]) (rfl : (pj lw).1 16 16 = some (.tableswitch 90 4 11 #[48, 53, 59, 65, 70, 75, 80, 85], 48, 0)) rfl (by decide) (by decide)
theorem w16_91 {x : Nat} : W (pj lw) 16 91 (.val (.ref x) :: L) S k n H Q ↔ W (pj lw) 16 92 (.val (.ref x) :: L) (.ref x :: S) k n H Q := W_s (rfl : (pj lw).1 16 91 = some (.aload_n 0, 1, 0)) rfl rfl rfl
theorem w16_92 {a : Nat} : W (pj lw) 16 92 L (.ref a :: S) k n H Q ↔ (isO H a = true ∧ W (pj lw) 16 95 L (fld H a 18 :: S) k n H Q) := W_getf (rfl : (pj lw).1 16 92 = some (.getfield 70, 3, 18))
theorem w16_95 {x : Int32} : W (pj lw) 16 95 L (.int x :: S) k n H Q ↔ Q (some (.int x)) H := W_r (rfl : (pj lw).1 16 95 = some (.ireturn, 1, 0)) rfl
theorem w16_96 {x : Nat} : W (pj lw) 16 96 (.val (.ref x) :: L) S k n H Q ↔ W (pj lw) 16 97 (.val (.ref x) :: L) (.ref x :: S) k n H Q := W_s (rfl : (pj lw).1 16 96 = some (.aload_n 0, 1, 0)) rfl rfl rfl
theorem w16_97 {a : Nat} : W (pj lw) 16 97 L (.ref a :: S) k n H Q ↔ (isO H a = true ∧ W (pj lw) 16 100 L (fld H a 22 :: S) k n H Q) := W_getf (rfl : (pj lw).1 16 97 = some (.getfield 82, 3, 22))
theorem w16_100 {x : Int32} : W (pj lw) 16 100 L (.int x :: S) k n H Q ↔ Q (some (.int x)) H := W_r (rfl : (pj lw).1 16 100 = some (.ireturn, 1, 0)) rfl
theorem w16_101 {x : Nat} : W (pj lw) 16 101 (.val (.ref x) :: L) S k n H Q ↔ W (pj lw) 16 102 (.val (.ref x) :: L) (.ref x :: S) k n H Q := W_s (rfl : (pj lw).1 16 101 = some (.aload_n 0, 1, 0)) rfl rfl rfl
theorem w16_102 {a : Nat} : W (pj lw) 16 102 L (.ref a :: S) k n H Q ↔ ((isO H a = true ∧ cs S + (3 + 11) + 0 ≤ 16) ∧ Cl (pj lw) 34 [.ref a] H (fun v H => W (pj lw) 16 105 L (v.toList ++ S) k n H Q)) := W_inst (as := []) (rfl : (pj lw).1 16 102 = some (.invokevirtual 111, 3, 34)) rfl rfl rfl (Nat.le_of_ble_eq_true rfl) (Nat.le_of_ble_eq_true rfl) ⟨rfl, rfl⟩
theorem w16_105 {x : Int32} : W (pj lw) 16 105 L (.int x :: S) k n H Q ↔ Q (some (.int x)) H := W_r (rfl : (pj lw).1 16 105 = some (.ireturn, 1, 0)) rfl
theorem c17 {x0 : Nat} {x1 : Int32} {x2 : Int32} {x3 : Int32} : Cl (pj lw) 17 [.ref x0, .int x1, .int x2, .int x3] H Q ↔ W (pj lw) 17 0 [.val (.ref x0), .val (.int x1), .val (.int x2), .val (.int x3)] [] 0 0 H Q := cl_unf rfl
theorem w17_0 {x : Int32} {l0 : Slot} : W (pj lw) 17 0 (l0 :: .val (.int x) :: L) S k n H Q ↔ W (pj lw) 17 1 (l0 :: .val (.int x) :: L) (.int x :: S) k n H Q := W_s (rfl : (pj lw).1 17 0 = some (.iload_n 1, 1, 0)) rfl rfl rfl
theorem w17_1 {x : Int32} {l0 l1 : Slot} : W (pj lw) 17 1 (l0 :: l1 :: .val (.int x) :: L) S k n H Q ↔ W (pj lw) 17 2 (l0 :: l1 :: .val (.int x) :: L) (.int x :: S) k n H Q := W_s (rfl : (pj lw).1 17 1 = some (.iload_n 2, 1, 0)) rfl rfl rfl
theorem w17_2 {x y : Int32} : W (pj lw) 17 2 L (.int y :: .int x :: S) k n H Q ↔ (if x < y then W (pj lw) 17 5 L S k n H Q else W (pj lw) 17 7 L S k n H Q) := W_icmp_ge (rfl : (pj lw).1 17 2 = some (.if_icmp .ge 5, 3, 0)) rfl
theorem w17_5 {x : Int32} {l0 l1 : Slot} : W (pj lw) 17 5 (l0 :: l1 :: .val (.int x) :: L) S k n H Q ↔ W (pj lw) 17 6 (l0 :: l1 :: .val (.int x) :: L) (.int x :: S) k n H Q := W_s (rfl : (pj lw).1 17 5 = some (.iload_n 2, 1, 0)) rfl rfl rfl
theorem w17_6 {x : Int32} : W (pj lw) 17 6 L (.int x :: S) k n H Q ↔ Q (some (.int x)) H := W_r (rfl : (pj lw).1 17 6 = some (.ireturn, 1, 0)) rfl
theorem w17_7 {x : Int32} {l0 : Slot} : W (pj lw) 17 7 (l0 :: .val (.int x) :: L) S k n H Q ↔ W (pj lw) 17 8 (l0 :: .val (.int x) :: L) (.int x :: S) k n H Q := W_s (rfl : (pj lw).1 17 7 = some (.iload_n 1, 1, 0)) rfl rfl rfl
theorem w17_8 {x : Int32} {l0 l1 l2 : Slot} : W (pj lw) 17 8 (l0 :: l1 :: l2 :: .val (.int x) :: L) S k n H Q ↔ W (pj lw) 17 9 (l0 :: l1 :: l2 :: .val (.int x) :: L) (.int x :: S) k n H Q := W_s (rfl : (pj lw).1 17 8 = some (.iload_n 3, 1, 0)) rfl rfl rfl
theorem w17_9 {x y : Int32} : W (pj lw) 17 9 L (.int y :: .int x :: S) k n H Q ↔ (if y < x then W (pj lw) 17 12 L S k n H Q else W (pj lw) 17 14 L S k n H Q) := W_icmp_le (rfl : (pj lw).1 17 9 = some (.if_icmp .le 5, 3, 0)) rfl
theorem w17_12 {x : Int32} {l0 l1 l2 : Slot} : W (pj lw) 17 12 (l0 :: l1 :: l2 :: .val (.int x) :: L) S k n H Q ↔ W (pj lw) 17 13 (l0 :: l1 :: l2 :: .val (.int x) :: L) (.int x :: S) k n H Q := W_s (rfl : (pj lw).1 17 12 = some (.iload_n 3, 1, 0)) rfl rfl rfl
theorem w17_13 {x : Int32} : W (pj lw) 17 13 L (.int x :: S) k n H Q ↔ Q (some (.int x)) H := W_r (rfl : (pj lw).1 17 13 = some (.ireturn, 1, 0)) rfl
theorem w17_14 {x : Int32} {l0 : Slot} : W (pj lw) 17 14 (l0 :: .val (.int x) :: L) S k n H Q ↔ W (pj lw) 17 15 (l0 :: .val (.int x) :: L) (.int x :: S) k n H Q := W_s (rfl : (pj lw).1 17 14 = some (.iload_n 1, 1, 0)) rfl rfl rfl
theorem w17_15 {x : Int32} : W (pj lw) 17 15 L (.int x :: S) k n H Q ↔ Q (some (.int x)) H := W_r (rfl : (pj lw).1 17 15 = some (.ireturn, 1, 0)) rfl
theorem c18 {x0 : Nat} {x1 : Int32} : Cl (pj lw) 18 [.ref x0, .int x1] H Q ↔ W (pj lw) 18 0 [.val (.ref x0), .val (.int x1)] [] 0 0 H Q := cl_unf rfl
theorem w18_0 {x : Int32} {l0 : Slot} : W (pj lw) 18 0 (l0 :: .val (.int x) :: L) S k n H Q ↔ W (pj lw) 18 1 (l0 :: .val (.int x) :: L) (.int x :: S) k n H Q := W_s (rfl : (pj lw).1 18 0 = some (.iload_n 1, 1, 0)) rfl rfl rfl
theorem w18_1 {x : Int32} : W (pj lw) 18 1 L (.int x :: S) k n H Q ↔ (if x < 0 then W (pj lw) 18 16 L S k n H Q else W (pj lw) 18 4 L S k n H Q) := W_if_lt (rfl : (pj lw).1 18 1 = some (.ifCond .lt 15, 3, 0)) rfl
theorem w18_4 {x : Int32} {l0 : Slot} : W (pj lw) 18 4 (l0 :: .val (.int x) :: L) S k n H Q ↔ W (pj lw) 18 5 (l0 :: .val (.int x) :: L) (.int x :: S) k n H Q := W_s (rfl : (pj lw).1 18 4 = some (.iload_n 1, 1, 0)) rfl rfl rfl
theorem w18_5 {x : Nat} : W (pj lw) 18 5 (.val (.ref x) :: L) S k n H Q ↔ W (pj lw) 18 6 (.val (.ref x) :: L) (.ref x :: S) k n H Q := W_s (rfl : (pj lw).1 18 5 = some (.aload_n 0, 1, 0)) rfl rfl rfl
theorem w18_6 {a : Nat} : W (pj lw) 18 6 L (.ref a :: S) k n H Q ↔ (isO H a = true ∧ W (pj lw) 18 9 L (fld H a 0 :: S) k n H Q) := W_getf (rfl : (pj lw).1 18 6 = some (.getfield 57, 3, 0))
theorem w18_9 {x y : Int32} : W (pj lw) 18 9 L (.int y :: .int x :: S) k n H Q ↔ (if x < y then W (pj lw) 18 12 L S k n H Q else W (pj lw) 18 16 L S k n H Q) := W_icmp_ge (rfl : (pj lw).1 18 9 = some (.if_icmp .ge 7, 3, 0)) rfl
theorem w18_12 : W (pj lw) 18 12 L S k n H Q ↔ W (pj lw) 18 13 L (.int 1 :: S) k n H Q := W_s (rfl : (pj lw).1 18 12 = some (.iconst 1, 1, 0)) rfl rfl rfl
theorem w18_13 : W (pj lw) 18 13 L S k n H Q ↔ W (pj lw) 18 17 L S k n H Q := W_goto (rfl : (pj lw).1 18 13 = some (.goto 4, 3, 0)) rfl
theorem w18_16 : W (pj lw) 18 16 L S k n H Q ↔ W (pj lw) 18 17 L (.int 0 :: S) k n H Q := W_s (rfl : (pj lw).1 18 16 = some (.iconst 0, 1, 0)) rfl rfl rfl
theorem w18_17 {x : Int32} : W (pj lw) 18 17 L (.int x :: S) k n H Q ↔ ((x = 0 ∨ x = 1) ∧ Q (some (.int x)) H) := W_rz (rfl : (pj lw).1 18 17 = some (.ireturn, 1, 0)) rfl
theorem c19 {x0 : Nat} : Cl (pj lw) 19 [.ref x0] H Q ↔ W (pj lw) 19 0 [.val (.ref x0)] [] 0 0 H Q := cl_unf rfl
theorem w19_0 {x : Nat} : W (pj lw) 19 0 (.val (.ref x) :: L) S k n H Q ↔ W (pj lw) 19 1 (.val (.ref x) :: L) (.ref x :: S) k n H Q := W_s (rfl : (pj lw).1 19 0 = some (.aload_n 0, 1, 0)) rfl rfl rfl
theorem w19_1 {x : Nat} : W (pj lw) 19 1 (.val (.ref x) :: L) S k n H Q ↔ W (pj lw) 19 2 (.val (.ref x) :: L) (.ref x :: S) k n H Q := W_s (rfl : (pj lw).1 19 1 = some (.aload_n 0, 1, 0)) rfl rfl rfl
theorem w19_2 {a : Nat} : W (pj lw) 19 2 L (.ref a :: S) k n H Q ↔ (isO H a = true ∧ W (pj lw) 19 5 L (fld H a 23 :: S) k n H Q) := W_getf (rfl : (pj lw).1 19 2 = some (.getfield 85, 3, 23))
theorem w19_5 : W (pj lw) 19 5 L S k n H Q ↔ W (pj lw) 19 7 L (.int 1103515245 :: S) k n H Q := W_s (rfl : (pj lw).1 19 5 = some (.ldc 114, 2, 1103515245)) rfl rfl rfl
theorem w19_7 {x y : Int32} : W (pj lw) 19 7 L (.int y :: .int x :: S) k n H Q ↔ W (pj lw) 19 8 L (.int (x * y) :: S) k n H Q := W_s (rfl : (pj lw).1 19 7 = some (.imul, 1, 0)) rfl rfl rfl
theorem w19_8 : W (pj lw) 19 8 L S k n H Q ↔ W (pj lw) 19 11 L (.int 12345 :: S) k n H Q := W_s (rfl : (pj lw).1 19 8 = some (.sipush 12345, 3, 0)) rfl rfl rfl
theorem w19_11 {x y : Int32} : W (pj lw) 19 11 L (.int y :: .int x :: S) k n H Q ↔ W (pj lw) 19 12 L (.int (x + y) :: S) k n H Q := W_s (rfl : (pj lw).1 19 11 = some (.iadd, 1, 0)) rfl rfl rfl
theorem w19_12 {a : Nat} {v : Value} : W (pj lw) 19 12 L (v :: .ref a :: S) k n H Q ↔ ((isOw H a = true ∧ okv (.int) v = true) ∧ W (pj lw) 19 15 L S k n (wr H a 23 v) Q) := W_putf (rfl : (pj lw).1 19 12 = some (.putfield 85, 3, 23))
theorem w19_15 {x : Nat} : W (pj lw) 19 15 (.val (.ref x) :: L) S k n H Q ↔ W (pj lw) 19 16 (.val (.ref x) :: L) (.ref x :: S) k n H Q := W_s (rfl : (pj lw).1 19 15 = some (.aload_n 0, 1, 0)) rfl rfl rfl
theorem w19_16 {a : Nat} : W (pj lw) 19 16 L (.ref a :: S) k n H Q ↔ (isO H a = true ∧ W (pj lw) 19 19 L (fld H a 23 :: S) k n H Q) := W_getf (rfl : (pj lw).1 19 16 = some (.getfield 85, 3, 23))
theorem w19_19 : W (pj lw) 19 19 L S k n H Q ↔ W (pj lw) 19 21 L (.int 8 :: S) k n H Q := W_s (rfl : (pj lw).1 19 19 = some (.bipush 8, 2, 0)) rfl rfl rfl
theorem w19_21 {x y : Int32} : W (pj lw) 19 21 L (.int y :: .int x :: S) k n H Q ↔ W (pj lw) 19 22 L (.int (Jvm.Free.XT.ushr x y) :: S) k n H Q := W_s (rfl : (pj lw).1 19 21 = some (.iushr, 1, 0)) rfl rfl rfl
theorem w19_22 : W (pj lw) 19 22 L S k n H Q ↔ W (pj lw) 19 24 L (.int 16777215 :: S) k n H Q := W_s (rfl : (pj lw).1 19 22 = some (.ldc 115, 2, 16777215)) rfl rfl rfl
theorem w19_24 {x y : Int32} : W (pj lw) 19 24 L (.int y :: .int x :: S) k n H Q ↔ W (pj lw) 19 25 L (.int (x &&& y) :: S) k n H Q := W_s (rfl : (pj lw).1 19 24 = some (.iand, 1, 0)) rfl rfl rfl
theorem w19_25 : W (pj lw) 19 25 L S k n H Q ↔ W (pj lw) 19 28 L (.int 1000 :: S) k n H Q := W_s (rfl : (pj lw).1 19 25 = some (.sipush 1000, 3, 0)) rfl rfl rfl
theorem w19_28 {x y : Int32} : W (pj lw) 19 28 L (.int y :: .int x :: S) k n H Q ↔ (¬ y = 0 ∧ W (pj lw) 19 29 L (.int (x % y) :: S) k n H Q) := W_irem (rfl : (pj lw).1 19 28 = some (.irem, 1, 0))
theorem w19_29 {x : Int32} : W (pj lw) 19 29 L (.int x :: S) k n H Q ↔ Q (some (.int x)) H := W_r (rfl : (pj lw).1 19 29 = some (.ireturn, 1, 0)) rfl
theorem c20 {x0 : Nat} {x1 : Int32} {x2 : Int32} : Cl (pj lw) 20 [.ref x0, .int x1, .int x2] H Q ↔ W (pj lw) 20 0 [.val (.ref x0), .val (.int x1), .val (.int x2), .unset, .unset, .unset] [] 0 0 H Q := cl_unf rfl
theorem w20_0 : W (pj lw) 20 0 L S k n H Q ↔ W (pj lw) 20 1 L (.int 0 :: S) k n H Q := W_s (rfl : (pj lw).1 20 0 = some (.iconst 0, 1, 0)) rfl rfl rfl
theorem w20_1 {x : Int32} {l0 l1 l2 : Slot} : W (pj lw) 20 1 (l0 :: l1 :: l2 :: .unset :: L) (.int x :: S) k n H Q ↔ W (pj lw) 20 2 (l0 :: l1 :: l2 :: .val (.int x) :: L) S k n H Q := W_istn (rfl : (pj lw).1 20 1 = some (.istore_n 3, 1, 0)) rfl rfl
theorem w20_2 {x : Int32} {l0 l1 l2 : Slot} : W (pj lw) 20 2 (l0 :: l1 :: l2 :: .val (.int x) :: L) S k n H Q ↔ W (pj lw) 20 3 (l0 :: l1 :: l2 :: .val (.int x) :: L) (.int x :: S) k n H Q := W_s (rfl : (pj lw).1 20 2 = some (.iload_n 3, 1, 0)) rfl rfl rfl
theorem w20_3 {x : Nat} : W (pj lw) 20 3 (.val (.ref x) :: L) S k n H Q ↔ W (pj lw) 20 4 (.val (.ref x) :: L) (.ref x :: S) k n H Q := W_s (rfl : (pj lw).1 20 3 = some (.aload_n 0, 1, 0)) rfl rfl rfl
theorem w20_4 {a : Nat} : W (pj lw) 20 4 L (.ref a :: S) k n H Q ↔ (isO H a = true ∧ W (pj lw) 20 7 L (fld H a 18 :: S) k n H Q) := W_getf (rfl : (pj lw).1 20 4 = some (.getfield 70, 3, 18))
theorem w20_7 {x y : Int32} : W (pj lw) 20 7 L (.int y :: .int x :: S) k n H Q ↔ (if x < y then W (pj lw) 20 10 L S k n H Q else W (pj lw) 20 58 L S k n H Q) := W_icmp_ge (rfl : (pj lw).1 20 7 = some (.if_icmp .ge 51, 3, 0)) rfl
theorem w20_10 {x : Nat} : W (pj lw) 20 10 (.val (.ref x) :: L) S k n H Q ↔ W (pj lw) 20 11 (.val (.ref x) :: L) (.ref x :: S) k n H Q := W_s (rfl : (pj lw).1 20 10 = some (.aload_n 0, 1, 0)) rfl rfl rfl
theorem w20_11 {a : Nat} : W (pj lw) 20 11 L (.ref a :: S) k n H Q ↔ (isO H a = true ∧ W (pj lw) 20 14 L (fld H a 15 :: S) k n H Q) := W_getf (rfl : (pj lw).1 20 11 = some (.getfield 44, 3, 15))
theorem w20_14 {x : Int32} {l0 l1 l2 : Slot} : W (pj lw) 20 14 (l0 :: l1 :: l2 :: .val (.int x) :: L) S k n H Q ↔ W (pj lw) 20 15 (l0 :: l1 :: l2 :: .val (.int x) :: L) (.int x :: S) k n H Q := W_s (rfl : (pj lw).1 20 14 = some (.iload_n 3, 1, 0)) rfl rfl rfl
theorem w20_15 {i : Int32} {a : Nat} : W (pj lw) 20 15 L (.int i :: .ref a :: S) k n H Q ↔ (inA H a .int i = true ∧ W (pj lw) 20 16 L (elt H a i :: S) k n H Q) := W_iaload (rfl : (pj lw).1 20 15 = some (.iaload, 1, 0))
theorem w20_16i {y : Int32} {x : Int32} {l0 l1 l2 l3 : Slot} : W (pj lw) 20 16 (l0 :: l1 :: l2 :: l3 :: .val (.int y) :: L) (.int x :: S) k n H Q ↔ W (pj lw) 20 18 (l0 :: l1 :: l2 :: l3 :: .val (.int x) :: L) S k n H Q := W_ist (rfl : (pj lw).1 20 16 = some (.istore 4, 2, 0)) rfl rfl
theorem w20_16 {x : Int32} {l0 l1 l2 l3 : Slot} : W (pj lw) 20 16 (l0 :: l1 :: l2 :: l3 :: .unset :: L) (.int x :: S) k n H Q ↔ W (pj lw) 20 18 (l0 :: l1 :: l2 :: l3 :: .val (.int x) :: L) S k n H Q := W_ist (rfl : (pj lw).1 20 16 = some (.istore 4, 2, 0)) rfl rfl
theorem w20_18 {x : Nat} : W (pj lw) 20 18 (.val (.ref x) :: L) S k n H Q ↔ W (pj lw) 20 19 (.val (.ref x) :: L) (.ref x :: S) k n H Q := W_s (rfl : (pj lw).1 20 18 = some (.aload_n 0, 1, 0)) rfl rfl rfl
theorem w20_19 {a : Nat} : W (pj lw) 20 19 L (.ref a :: S) k n H Q ↔ (isO H a = true ∧ W (pj lw) 20 22 L (fld H a 16 :: S) k n H Q) := W_getf (rfl : (pj lw).1 20 19 = some (.getfield 47, 3, 16))
theorem w20_22 {x : Int32} {l0 l1 l2 : Slot} : W (pj lw) 20 22 (l0 :: l1 :: l2 :: .val (.int x) :: L) S k n H Q ↔ W (pj lw) 20 23 (l0 :: l1 :: l2 :: .val (.int x) :: L) (.int x :: S) k n H Q := W_s (rfl : (pj lw).1 20 22 = some (.iload_n 3, 1, 0)) rfl rfl rfl
theorem w20_23 {i : Int32} {a : Nat} : W (pj lw) 20 23 L (.int i :: .ref a :: S) k n H Q ↔ (inA H a .int i = true ∧ W (pj lw) 20 24 L (elt H a i :: S) k n H Q) := W_iaload (rfl : (pj lw).1 20 23 = some (.iaload, 1, 0))
theorem w20_24i {y : Int32} {x : Int32} {l0 l1 l2 l3 l4 : Slot} : W (pj lw) 20 24 (l0 :: l1 :: l2 :: l3 :: l4 :: .val (.int y) :: L) (.int x :: S) k n H Q ↔ W (pj lw) 20 26 (l0 :: l1 :: l2 :: l3 :: l4 :: .val (.int x) :: L) S k n H Q := W_ist (rfl : (pj lw).1 20 24 = some (.istore 5, 2, 0)) rfl rfl
theorem w20_24 {x : Int32} {l0 l1 l2 l3 l4 : Slot} : W (pj lw) 20 24 (l0 :: l1 :: l2 :: l3 :: l4 :: .unset :: L) (.int x :: S) k n H Q ↔ W (pj lw) 20 26 (l0 :: l1 :: l2 :: l3 :: l4 :: .val (.int x) :: L) S k n H Q := W_ist (rfl : (pj lw).1 20 24 = some (.istore 5, 2, 0)) rfl rfl
theorem w20_26 {x : Int32} {l0 l1 l2 l3 : Slot} : W (pj lw) 20 26 (l0 :: l1 :: l2 :: l3 :: .val (.int x) :: L) S k n H Q ↔ W (pj lw) 20 28 (l0 :: l1 :: l2 :: l3 :: .val (.int x) :: L) (.int x :: S) k n H Q := W_s (rfl : (pj lw).1 20 26 = some (.iload 4, 2, 0)) rfl rfl rfl
theorem w20_28 {x : Int32} {l0 : Slot} : W (pj lw) 20 28 (l0 :: .val (.int x) :: L) S k n H Q ↔ W (pj lw) 20 29 (l0 :: .val (.int x) :: L) (.int x :: S) k n H Q := W_s (rfl : (pj lw).1 20 28 = some (.iload_n 1, 1, 0)) rfl rfl rfl
theorem w20_29 {x y : Int32} : W (pj lw) 20 29 L (.int y :: .int x :: S) k n H Q ↔ (if x = y then W (pj lw) 20 32 L S k n H Q else W (pj lw) 20 38 L S k n H Q) := W_icmp_ne (rfl : (pj lw).1 20 29 = some (.if_icmp .ne 9, 3, 0)) rfl
theorem w20_32 {x : Int32} {l0 l1 l2 l3 l4 : Slot} : W (pj lw) 20 32 (l0 :: l1 :: l2 :: l3 :: l4 :: .val (.int x) :: L) S k n H Q ↔ W (pj lw) 20 34 (l0 :: l1 :: l2 :: l3 :: l4 :: .val (.int x) :: L) (.int x :: S) k n H Q := W_s (rfl : (pj lw).1 20 32 = some (.iload 5, 2, 0)) rfl rfl rfl
theorem w20_34 {x : Int32} {l0 l1 : Slot} : W (pj lw) 20 34 (l0 :: l1 :: .val (.int x) :: L) S k n H Q ↔ W (pj lw) 20 35 (l0 :: l1 :: .val (.int x) :: L) (.int x :: S) k n H Q := W_s (rfl : (pj lw).1 20 34 = some (.iload_n 2, 1, 0)) rfl rfl rfl
theorem w20_35 {x y : Int32} : W (pj lw) 20 35 L (.int y :: .int x :: S) k n H Q ↔ (if x = y then W (pj lw) 20 50 L S k n H Q else W (pj lw) 20 38 L S k n H Q) := W_icmp_eq (rfl : (pj lw).1 20 35 = some (.if_icmp .eq 15, 3, 0)) rfl
theorem w20_38 {x : Int32} {l0 l1 l2 l3 : Slot} : W (pj lw) 20 38 (l0 :: l1 :: l2 :: l3 :: .val (.int x) :: L) S k n H Q ↔ W (pj lw) 20 40 (l0 :: l1 :: l2 :: l3 :: .val (.int x) :: L) (.int x :: S) k n H Q := W_s (rfl : (pj lw).1 20 38 = some (.iload 4, 2, 0)) rfl rfl rfl
theorem w20_40 {x : Int32} {l0 l1 : Slot} : W (pj lw) 20 40 (l0 :: l1 :: .val (.int x) :: L) S k n H Q ↔ W (pj lw) 20 41 (l0 :: l1 :: .val (.int x) :: L) (.int x :: S) k n H Q := W_s (rfl : (pj lw).1 20 40 = some (.iload_n 2, 1, 0)) rfl rfl rfl
theorem w20_41 {x y : Int32} : W (pj lw) 20 41 L (.int y :: .int x :: S) k n H Q ↔ (if x = y then W (pj lw) 20 44 L S k n H Q else W (pj lw) 20 52 L S k n H Q) := W_icmp_ne (rfl : (pj lw).1 20 41 = some (.if_icmp .ne 11, 3, 0)) rfl
theorem w20_44 {x : Int32} {l0 l1 l2 l3 l4 : Slot} : W (pj lw) 20 44 (l0 :: l1 :: l2 :: l3 :: l4 :: .val (.int x) :: L) S k n H Q ↔ W (pj lw) 20 46 (l0 :: l1 :: l2 :: l3 :: l4 :: .val (.int x) :: L) (.int x :: S) k n H Q := W_s (rfl : (pj lw).1 20 44 = some (.iload 5, 2, 0)) rfl rfl rfl
theorem w20_46 {x : Int32} {l0 : Slot} : W (pj lw) 20 46 (l0 :: .val (.int x) :: L) S k n H Q ↔ W (pj lw) 20 47 (l0 :: .val (.int x) :: L) (.int x :: S) k n H Q := W_s (rfl : (pj lw).1 20 46 = some (.iload_n 1, 1, 0)) rfl rfl rfl
theorem w20_47 {x y : Int32} : W (pj lw) 20 47 L (.int y :: .int x :: S) k n H Q ↔ (if x = y then W (pj lw) 20 50 L S k n H Q else W (pj lw) 20 52 L S k n H Q) := W_icmp_ne (rfl : (pj lw).1 20 47 = some (.if_icmp .ne 5, 3, 0)) rfl
theorem w20_50 : W (pj lw) 20 50 L S k n H Q ↔ W (pj lw) 20 51 L (.int 1 :: S) k n H Q := W_s (rfl : (pj lw).1 20 50 = some (.iconst 1, 1, 0)) rfl rfl rfl
theorem w20_51 {x : Int32} : W (pj lw) 20 51 L (.int x :: S) k n H Q ↔ ((x = 0 ∨ x = 1) ∧ Q (some (.int x)) H) := W_rz (rfl : (pj lw).1 20 51 = some (.ireturn, 1, 0)) rfl
theorem w20_52 {x : Int32} {l0 l1 l2 : Slot} : W (pj lw) 20 52 (l0 :: l1 :: l2 :: .val (.int x) :: L) S k n H Q ↔ W (pj lw) 20 55 (l0 :: l1 :: l2 :: .val (.int (x + 1)) :: L) S k n H Q := W_s (rfl : (pj lw).1 20 52 = some (.iinc 3 1, 3, 0)) rfl rfl rfl
theorem w20_55 : W (pj lw) 20 55 L S k n H Q ↔ W (pj lw) 20 2 L S k n H Q := W_goto (rfl : (pj lw).1 20 55 = some (.goto (-53), 3, 0)) rfl
theorem w20_58 : W (pj lw) 20 58 L S k n H Q ↔ W (pj lw) 20 59 L (.int 0 :: S) k n H Q := W_s (rfl : (pj lw).1 20 58 = some (.iconst 0, 1, 0)) rfl rfl rfl
theorem w20_59 {x : Int32} : W (pj lw) 20 59 L (.int x :: S) k n H Q ↔ ((x = 0 ∨ x = 1) ∧ Q (some (.int x)) H) := W_rz (rfl : (pj lw).1 20 59 = some (.ireturn, 1, 0)) rfl
theorem c21 {x0 : Nat} : Cl (pj lw) 21 [.ref x0] H Q ↔ W (pj lw) 21 0 [.val (.ref x0)] [] 0 0 H Q := cl_unf rfl
theorem w21_0 {x : Nat} : W (pj lw) 21 0 (.val (.ref x) :: L) S k n H Q ↔ W (pj lw) 21 1 (.val (.ref x) :: L) (.ref x :: S) k n H Q := W_s (rfl : (pj lw).1 21 0 = some (.aload_n 0, 1, 0)) rfl rfl rfl
theorem w21_1 {a : Nat} : W (pj lw) 21 1 L (.ref a :: S) k n H Q ↔ ((isO H a = true ∧ cs S + (2 + 11) + 0 ≤ 43) ∧ Cl (pj lw) 22 [.ref a] H (fun v H => W (pj lw) 21 4 L (v.toList ++ S) k n H Q)) := W_inst (as := []) (rfl : (pj lw).1 21 1 = some (.invokevirtual 116, 3, 22)) rfl rfl rfl (Nat.le_of_ble_eq_true rfl) (Nat.le_of_ble_eq_true rfl) ⟨rfl, rfl⟩
theorem w21_4 {x : Nat} : W (pj lw) 21 4 (.val (.ref x) :: L) S k n H Q ↔ W (pj lw) 21 5 (.val (.ref x) :: L) (.ref x :: S) k n H Q := W_s (rfl : (pj lw).1 21 4 = some (.aload_n 0, 1, 0)) rfl rfl rfl
theorem w21_5 {a : Nat} : W (pj lw) 21 5 L (.ref a :: S) k n H Q ↔ ((isO H a = true ∧ cs S + (4 + 11) + 28 ≤ 43) ∧ Cl (pj lw) 24 [.ref a] H (fun v H => W (pj lw) 21 8 L (v.toList ++ S) k n H Q)) := W_inst (as := []) (rfl : (pj lw).1 21 5 = some (.invokevirtual 119, 3, 24)) rfl rfl rfl (Nat.le_of_ble_eq_true rfl) (Nat.le_of_ble_eq_true rfl) ⟨rfl, rfl⟩
theorem w21_8 {x : Nat} : W (pj lw) 21 8 (.val (.ref x) :: L) S k n H Q ↔ W (pj lw) 21 9 (.val (.ref x) :: L) (.ref x :: S) k n H Q := W_s (rfl : (pj lw).1 21 8 = some (.aload_n 0, 1, 0)) rfl rfl rfl
theorem w21_9 {a : Nat} : W (pj lw) 21 9 L (.ref a :: S) k n H Q ↔ ((isO H a = true ∧ cs S + (2 + 11) + 0 ≤ 43) ∧ Cl (pj lw) 26 [.ref a] H (fun v H => W (pj lw) 21 12 L (v.toList ++ S) k n H Q)) := W_inst (as := []) (rfl : (pj lw).1 21 9 = some (.invokevirtual 122, 3, 26)) rfl rfl rfl (Nat.le_of_ble_eq_true rfl) (Nat.le_of_ble_eq_true rfl) ⟨rfl, rfl⟩
theorem w21_12 {x : Nat} : W (pj lw) 21 12 (.val (.ref x) :: L) S k n H Q ↔ W (pj lw) 21 13 (.val (.ref x) :: L) (.ref x :: S) k n H Q := W_s (rfl : (pj lw).1 21 12 = some (.aload_n 0, 1, 0)) rfl rfl rfl
theorem w21_13 {a : Nat} : W (pj lw) 21 13 L (.ref a :: S) k n H Q ↔ ((isO H a = true ∧ cs S + (2 + 11) + 0 ≤ 43) ∧ Cl (pj lw) 27 [.ref a] H (fun v H => W (pj lw) 21 16 L (v.toList ++ S) k n H Q)) := W_inst (as := []) (rfl : (pj lw).1 21 13 = some (.invokevirtual 125, 3, 27)) rfl rfl rfl (Nat.le_of_ble_eq_true rfl) (Nat.le_of_ble_eq_true rfl) ⟨rfl, rfl⟩
theorem w21_16 {x : Nat} : W (pj lw) 21 16 (.val (.ref x) :: L) S k n H Q ↔ W (pj lw) 21 17 (.val (.ref x) :: L) (.ref x :: S) k n H Q := W_s (rfl : (pj lw).1 21 16 = some (.aload_n 0, 1, 0)) rfl rfl rfl
theorem w21_17 {a : Nat} : W (pj lw) 21 17 L (.ref a :: S) k n H Q ↔ ((isO H a = true ∧ cs S + (3 + 11) + 28 ≤ 43) ∧ Cl (pj lw) 28 [.ref a] H (fun v H => W (pj lw) 21 20 L (v.toList ++ S) k n H Q)) := W_inst (as := []) (rfl : (pj lw).1 21 17 = some (.invokevirtual 128, 3, 28)) rfl rfl rfl (Nat.le_of_ble_eq_true rfl) (Nat.le_of_ble_eq_true rfl) ⟨rfl, rfl⟩
theorem w21_20 {x : Nat} : W (pj lw) 21 20 (.val (.ref x) :: L) S k n H Q ↔ W (pj lw) 21 21 (.val (.ref x) :: L) (.ref x :: S) k n H Q := W_s (rfl : (pj lw).1 21 20 = some (.aload_n 0, 1, 0)) rfl rfl rfl
theorem w21_21 {x : Nat} : W (pj lw) 21 21 (.val (.ref x) :: L) S k n H Q ↔ W (pj lw) 21 22 (.val (.ref x) :: L) (.ref x :: S) k n H Q := W_s (rfl : (pj lw).1 21 21 = some (.aload_n 0, 1, 0)) rfl rfl rfl
theorem w21_22 {a : Nat} : W (pj lw) 21 22 L (.ref a :: S) k n H Q ↔ (isO H a = true ∧ W (pj lw) 21 25 L (fld H a 22 :: S) k n H Q) := W_getf (rfl : (pj lw).1 21 22 = some (.getfield 82, 3, 22))
theorem w21_25 : W (pj lw) 21 25 L S k n H Q ↔ W (pj lw) 21 26 L (.int 1 :: S) k n H Q := W_s (rfl : (pj lw).1 21 25 = some (.iconst 1, 1, 0)) rfl rfl rfl
theorem w21_26 {x y : Int32} : W (pj lw) 21 26 L (.int y :: .int x :: S) k n H Q ↔ W (pj lw) 21 27 L (.int (x + y) :: S) k n H Q := W_s (rfl : (pj lw).1 21 26 = some (.iadd, 1, 0)) rfl rfl rfl
theorem w21_27 {a : Nat} {v : Value} : W (pj lw) 21 27 L (v :: .ref a :: S) k n H Q ↔ ((isOw H a = true ∧ okv (.int) v = true) ∧ W (pj lw) 21 30 L S k n (wr H a 22 v) Q) := W_putf (rfl : (pj lw).1 21 27 = some (.putfield 82, 3, 22))
theorem w21_30 : W (pj lw) 21 30 L [] k n H Q ↔ Q none H := W_r (rfl : (pj lw).1 21 30 = some (.return_, 1, 0)) rfl
theorem c22 {x0 : Nat} : Cl (pj lw) 22 [.ref x0] H Q ↔ W (pj lw) 22 0 [.val (.ref x0), .unset] [] 0 0 H Q := cl_unf rfl
theorem w22_0 : W (pj lw) 22 0 L S k n H Q ↔ W (pj lw) 22 1 L (.int 0 :: S) k n H Q := W_s (rfl : (pj lw).1 22 0 = some (.iconst 0, 1, 0)) rfl rfl rfl
theorem w22_1 {x : Int32} {l0 : Slot} : W (pj lw) 22 1 (l0 :: .unset :: L) (.int x :: S) k n H Q ↔ W (pj lw) 22 2 (l0 :: .val (.int x) :: L) S k n H Q := W_istn (rfl : (pj lw).1 22 1 = some (.istore_n 1, 1, 0)) rfl rfl
theorem w22_2 {x : Int32} {l0 : Slot} : W (pj lw) 22 2 (l0 :: .val (.int x) :: L) S k n H Q ↔ W (pj lw) 22 3 (l0 :: .val (.int x) :: L) (.int x :: S) k n H Q := W_s (rfl : (pj lw).1 22 2 = some (.iload_n 1, 1, 0)) rfl rfl rfl
theorem w22_3 {x : Nat} : W (pj lw) 22 3 (.val (.ref x) :: L) S k n H Q ↔ W (pj lw) 22 4 (.val (.ref x) :: L) (.ref x :: S) k n H Q := W_s (rfl : (pj lw).1 22 3 = some (.aload_n 0, 1, 0)) rfl rfl rfl
theorem w22_4 {a : Nat} : W (pj lw) 22 4 L (.ref a :: S) k n H Q ↔ (isO H a = true ∧ W (pj lw) 22 7 L (fld H a 0 :: S) k n H Q) := W_getf (rfl : (pj lw).1 22 4 = some (.getfield 57, 3, 0))
theorem w22_7 {x y : Int32} : W (pj lw) 22 7 L (.int y :: .int x :: S) k n H Q ↔ (if x < y then W (pj lw) 22 10 L S k n H Q else W (pj lw) 22 48 L S k n H Q) := W_icmp_ge (rfl : (pj lw).1 22 7 = some (.if_icmp .ge 41, 3, 0)) rfl
theorem w22_10 {x : Nat} : W (pj lw) 22 10 (.val (.ref x) :: L) S k n H Q ↔ W (pj lw) 22 11 (.val (.ref x) :: L) (.ref x :: S) k n H Q := W_s (rfl : (pj lw).1 22 10 = some (.aload_n 0, 1, 0)) rfl rfl rfl
theorem w22_11 {a : Nat} : W (pj lw) 22 11 L (.ref a :: S) k n H Q ↔ (isO H a = true ∧ W (pj lw) 22 14 L (fld H a 12 :: S) k n H Q) := W_getf (rfl : (pj lw).1 22 11 = some (.getfield 35, 3, 12))
theorem w22_14 {x : Int32} {l0 : Slot} : W (pj lw) 22 14 (l0 :: .val (.int x) :: L) S k n H Q ↔ W (pj lw) 22 15 (l0 :: .val (.int x) :: L) (.int x :: S) k n H Q := W_s (rfl : (pj lw).1 22 14 = some (.iload_n 1, 1, 0)) rfl rfl rfl
theorem w22_15 {x : Nat} : W (pj lw) 22 15 (.val (.ref x) :: L) S k n H Q ↔ W (pj lw) 22 16 (.val (.ref x) :: L) (.ref x :: S) k n H Q := W_s (rfl : (pj lw).1 22 15 = some (.aload_n 0, 1, 0)) rfl rfl rfl
theorem w22_16 {a : Nat} : W (pj lw) 22 16 L (.ref a :: S) k n H Q ↔ (isO H a = true ∧ W (pj lw) 22 19 L (fld H a 4 :: S) k n H Q) := W_getf (rfl : (pj lw).1 22 16 = some (.getfield 7, 3, 4))
theorem w22_19 {x : Int32} {l0 : Slot} : W (pj lw) 22 19 (l0 :: .val (.int x) :: L) S k n H Q ↔ W (pj lw) 22 20 (l0 :: .val (.int x) :: L) (.int x :: S) k n H Q := W_s (rfl : (pj lw).1 22 19 = some (.iload_n 1, 1, 0)) rfl rfl rfl
theorem w22_20 {i : Int32} {a : Nat} : W (pj lw) 22 20 L (.int i :: .ref a :: S) k n H Q ↔ (inA H a .int i = true ∧ W (pj lw) 22 21 L (elt H a i :: S) k n H Q) := W_iaload (rfl : (pj lw).1 22 20 = some (.iaload, 1, 0))
theorem w22_21 {x i : Int32} {a : Nat} : W (pj lw) 22 21 L (.int x :: .int i :: .ref a :: S) k n H Q ↔ (inAw H a .int i = true ∧ W (pj lw) 22 22 L S k n (wr H a i.toNatClampNeg (.int x)) Q) := W_iastore (rfl : (pj lw).1 22 21 = some (.iastore, 1, 0))
theorem w22_22 {x : Nat} : W (pj lw) 22 22 (.val (.ref x) :: L) S k n H Q ↔ W (pj lw) 22 23 (.val (.ref x) :: L) (.ref x :: S) k n H Q := W_s (rfl : (pj lw).1 22 22 = some (.aload_n 0, 1, 0)) rfl rfl rfl
theorem w22_23 {a : Nat} : W (pj lw) 22 23 L (.ref a :: S) k n H Q ↔ (isO H a = true ∧ W (pj lw) 22 26 L (fld H a 13 :: S) k n H Q) := W_getf (rfl : (pj lw).1 22 23 = some (.getfield 38, 3, 13))
theorem w22_26 {x : Int32} {l0 : Slot} : W (pj lw) 22 26 (l0 :: .val (.int x) :: L) S k n H Q ↔ W (pj lw) 22 27 (l0 :: .val (.int x) :: L) (.int x :: S) k n H Q := W_s (rfl : (pj lw).1 22 26 = some (.iload_n 1, 1, 0)) rfl rfl rfl
theorem w22_27 {x : Nat} : W (pj lw) 22 27 (.val (.ref x) :: L) S k n H Q ↔ W (pj lw) 22 28 (.val (.ref x) :: L) (.ref x :: S) k n H Q := W_s (rfl : (pj lw).1 22 27 = some (.aload_n 0, 1, 0)) rfl rfl rfl
theorem w22_28 {a : Nat} : W (pj lw) 22 28 L (.ref a :: S) k n H Q ↔ (isO H a = true ∧ W (pj lw) 22 31 L (fld H a 6 :: S) k n H Q) := W_getf (rfl : (pj lw).1 22 28 = some (.getfield 16, 3, 6))
theorem w22_31 {x : Int32} {l0 : Slot} : W (pj lw) 22 31 (l0 :: .val (.int x) :: L) S k n H Q ↔ W (pj lw) 22 32 (l0 :: .val (.int x) :: L) (.int x :: S) k n H Q := W_s (rfl : (pj lw).1 22 31 = some (.iload_n 1, 1, 0)) rfl rfl rfl
theorem w22_32 {i : Int32} {a : Nat} : W (pj lw) 22 32 L (.int i :: .ref a :: S) k n H Q ↔ (inA H a .int i = true ∧ W (pj lw) 22 33 L (elt H a i :: S) k n H Q) := W_iaload (rfl : (pj lw).1 22 32 = some (.iaload, 1, 0))
theorem w22_33 {x : Int32} : W (pj lw) 22 33 L (.int x :: S) k n H Q ↔ (if 0 < x then W (pj lw) 22 36 L S k n H Q else W (pj lw) 22 40 L S k n H Q) := W_if_le (rfl : (pj lw).1 22 33 = some (.ifCond .le 7, 3, 0)) rfl
theorem w22_36 : W (pj lw) 22 36 L S k n H Q ↔ W (pj lw) 22 37 L (.int 1 :: S) k n H Q := W_s (rfl : (pj lw).1 22 36 = some (.iconst 1, 1, 0)) rfl rfl rfl
theorem w22_37 : W (pj lw) 22 37 L S k n H Q ↔ W (pj lw) 22 41 L S k n H Q := W_goto (rfl : (pj lw).1 22 37 = some (.goto 4, 3, 0)) rfl
theorem w22_40 : W (pj lw) 22 40 L S k n H Q ↔ W (pj lw) 22 41 L (.int 0 :: S) k n H Q := W_s (rfl : (pj lw).1 22 40 = some (.iconst 0, 1, 0)) rfl rfl rfl
theorem w22_41 {x i : Int32} {a : Nat} : W (pj lw) 22 41 L (.int x :: .int i :: .ref a :: S) k n H Q ↔ (((inAw H a .byte i = true ∧ okv .byte (.int x) = true) ∨ (inAw H a .boolean i = true ∧ okv .boolean (.int x) = true)) ∧ W (pj lw) 22 42 L S k n (wr H a i.toNatClampNeg (.int x)) Q) := W_bastore (rfl : (pj lw).1 22 41 = some (.bastore, 1, 0))
theorem w22_42 {x : Int32} {l0 : Slot} : W (pj lw) 22 42 (l0 :: .val (.int x) :: L) S k n H Q ↔ W (pj lw) 22 45 (l0 :: .val (.int (x + 1)) :: L) S k n H Q := W_s (rfl : (pj lw).1 22 42 = some (.iinc 1 1, 3, 0)) rfl rfl rfl
theorem w22_45 : W (pj lw) 22 45 L S k n H Q ↔ W (pj lw) 22 2 L S k n H Q := W_goto (rfl : (pj lw).1 22 45 = some (.goto (-43), 3, 0)) rfl
theorem w22_48 : W (pj lw) 22 48 L [] k n H Q ↔ Q none H := W_r (rfl : (pj lw).1 22 48 = some (.return_, 1, 0)) rfl
theorem c23 {x0 : Nat} {x1 : Int32} {x2 : Int32} : Cl (pj lw) 23 [.ref x0, .int x1, .int x2] H Q ↔ W (pj lw) 23 0 [.val (.ref x0), .val (.int x1), .val (.int x2)] [] 0 0 H Q := cl_unf rfl
theorem w23_0 {x : Nat} : W (pj lw) 23 0 (.val (.ref x) :: L) S k n H Q ↔ W (pj lw) 23 1 (.val (.ref x) :: L) (.ref x :: S) k n H Q := W_s (rfl : (pj lw).1 23 0 = some (.aload_n 0, 1, 0)) rfl rfl rfl
theorem w23_1 {a : Nat} : W (pj lw) 23 1 L (.ref a :: S) k n H Q ↔ (isO H a = true ∧ W (pj lw) 23 4 L (fld H a 12 :: S) k n H Q) := W_getf (rfl : (pj lw).1 23 1 = some (.getfield 35, 3, 12))
theorem w23_4 {x : Int32} {l0 : Slot} : W (pj lw) 23 4 (l0 :: .val (.int x) :: L) S k n H Q ↔ W (pj lw) 23 5 (l0 :: .val (.int x) :: L) (.int x :: S) k n H Q := W_s (rfl : (pj lw).1 23 4 = some (.iload_n 1, 1, 0)) rfl rfl rfl
theorem w23_5 {i : Int32} {a : Nat} : W (pj lw) 23 5 L (.int i :: .ref a :: S) k n H Q ↔ (inA H a .int i = true ∧ W (pj lw) 23 6 L (elt H a i :: S) k n H Q) := W_iaload (rfl : (pj lw).1 23 5 = some (.iaload, 1, 0))
theorem w23_6 : W (pj lw) 23 6 L S k n H Q ↔ W (pj lw) 23 7 L (.int 2 :: S) k n H Q := W_s (rfl : (pj lw).1 23 6 = some (.iconst 2, 1, 0)) rfl rfl rfl
theorem w23_7 {x y : Int32} : W (pj lw) 23 7 L (.int y :: .int x :: S) k n H Q ↔ (if x = y then W (pj lw) 23 10 L S k n H Q else W (pj lw) 23 41 L S k n H Q) := W_icmp_ne (rfl : (pj lw).1 23 7 = some (.if_icmp .ne 34, 3, 0)) rfl
theorem w23_10 {x : Nat} : W (pj lw) 23 10 (.val (.ref x) :: L) S k n H Q ↔ W (pj lw) 23 11 (.val (.ref x) :: L) (.ref x :: S) k n H Q := W_s (rfl : (pj lw).1 23 10 = some (.aload_n 0, 1, 0)) rfl rfl rfl
theorem w23_11 {a : Nat} : W (pj lw) 23 11 L (.ref a :: S) k n H Q ↔ (isO H a = true ∧ W (pj lw) 23 14 L (fld H a 13 :: S) k n H Q) := W_getf (rfl : (pj lw).1 23 11 = some (.getfield 38, 3, 13))
theorem w23_14 {x : Int32} {l0 : Slot} : W (pj lw) 23 14 (l0 :: .val (.int x) :: L) S k n H Q ↔ W (pj lw) 23 15 (l0 :: .val (.int x) :: L) (.int x :: S) k n H Q := W_s (rfl : (pj lw).1 23 14 = some (.iload_n 1, 1, 0)) rfl rfl rfl
theorem w23_15 {i : Int32} {a : Nat} : W (pj lw) 23 15 L (.int i :: .ref a :: S) k n H Q ↔ ((inA H a .byte i = true ∨ inA H a .boolean i = true) ∧ W (pj lw) 23 16 L (elt H a i :: S) k n H Q) := W_baload (rfl : (pj lw).1 23 15 = some (.baload, 1, 0))
theorem w23_16 {x : Int32} : W (pj lw) 23 16 L (.int x :: S) k n H Q ↔ (if x = 0 then W (pj lw) 23 19 L S k n H Q else W (pj lw) 23 41 L S k n H Q) := W_if_ne (rfl : (pj lw).1 23 16 = some (.ifCond .ne 25, 3, 0)) rfl
theorem w23_19 {x : Nat} : W (pj lw) 23 19 (.val (.ref x) :: L) S k n H Q ↔ W (pj lw) 23 20 (.val (.ref x) :: L) (.ref x :: S) k n H Q := W_s (rfl : (pj lw).1 23 19 = some (.aload_n 0, 1, 0)) rfl rfl rfl
theorem w23_20 {a : Nat} : W (pj lw) 23 20 L (.ref a :: S) k n H Q ↔ (isO H a = true ∧ W (pj lw) 23 23 L (fld H a 12 :: S) k n H Q) := W_getf (rfl : (pj lw).1 23 20 = some (.getfield 35, 3, 12))
theorem w23_23 {x : Int32} {l0 l1 : Slot} : W (pj lw) 23 23 (l0 :: l1 :: .val (.int x) :: L) S k n H Q ↔ W (pj lw) 23 24 (l0 :: l1 :: .val (.int x) :: L) (.int x :: S) k n H Q := W_s (rfl : (pj lw).1 23 23 = some (.iload_n 2, 1, 0)) rfl rfl rfl
theorem w23_24 {i : Int32} {a : Nat} : W (pj lw) 23 24 L (.int i :: .ref a :: S) k n H Q ↔ (inA H a .int i = true ∧ W (pj lw) 23 25 L (elt H a i :: S) k n H Q) := W_iaload (rfl : (pj lw).1 23 24 = some (.iaload, 1, 0))
theorem w23_25 {x : Int32} : W (pj lw) 23 25 L (.int x :: S) k n H Q ↔ (if x = 0 then W (pj lw) 23 28 L S k n H Q else W (pj lw) 23 41 L S k n H Q) := W_if_ne (rfl : (pj lw).1 23 25 = some (.ifCond .ne 16, 3, 0)) rfl
theorem w23_28 {x : Nat} : W (pj lw) 23 28 (.val (.ref x) :: L) S k n H Q ↔ W (pj lw) 23 29 (.val (.ref x) :: L) (.ref x :: S) k n H Q := W_s (rfl : (pj lw).1 23 28 = some (.aload_n 0, 1, 0)) rfl rfl rfl
theorem w23_29 {a : Nat} : W (pj lw) 23 29 L (.ref a :: S) k n H Q ↔ (isO H a = true ∧ W (pj lw) 23 32 L (fld H a 13 :: S) k n H Q) := W_getf (rfl : (pj lw).1 23 29 = some (.getfield 38, 3, 13))
theorem w23_32 {x : Int32} {l0 l1 : Slot} : W (pj lw) 23 32 (l0 :: l1 :: .val (.int x) :: L) S k n H Q ↔ W (pj lw) 23 33 (l0 :: l1 :: .val (.int x) :: L) (.int x :: S) k n H Q := W_s (rfl : (pj lw).1 23 32 = some (.iload_n 2, 1, 0)) rfl rfl rfl
theorem w23_33 {i : Int32} {a : Nat} : W (pj lw) 23 33 L (.int i :: .ref a :: S) k n H Q ↔ ((inA H a .byte i = true ∨ inA H a .boolean i = true) ∧ W (pj lw) 23 34 L (elt H a i :: S) k n H Q) := W_baload (rfl : (pj lw).1 23 33 = some (.baload, 1, 0))
theorem w23_34 {x : Int32} : W (pj lw) 23 34 L (.int x :: S) k n H Q ↔ (if x = 0 then W (pj lw) 23 37 L S k n H Q else W (pj lw) 23 41 L S k n H Q) := W_if_ne (rfl : (pj lw).1 23 34 = some (.ifCond .ne 7, 3, 0)) rfl
theorem w23_37 : W (pj lw) 23 37 L S k n H Q ↔ W (pj lw) 23 38 L (.int 1 :: S) k n H Q := W_s (rfl : (pj lw).1 23 37 = some (.iconst 1, 1, 0)) rfl rfl rfl
theorem w23_38 : W (pj lw) 23 38 L S k n H Q ↔ W (pj lw) 23 42 L S k n H Q := W_goto (rfl : (pj lw).1 23 38 = some (.goto 4, 3, 0)) rfl
theorem w23_41 : W (pj lw) 23 41 L S k n H Q ↔ W (pj lw) 23 42 L (.int 0 :: S) k n H Q := W_s (rfl : (pj lw).1 23 41 = some (.iconst 0, 1, 0)) rfl rfl rfl
theorem w23_42 {x : Int32} : W (pj lw) 23 42 L (.int x :: S) k n H Q ↔ ((x = 0 ∨ x = 1) ∧ Q (some (.int x)) H) := W_rz (rfl : (pj lw).1 23 42 = some (.ireturn, 1, 0)) rfl
theorem c24 {x0 : Nat} : Cl (pj lw) 24 [.ref x0] H Q ↔ W (pj lw) 24 0 [.val (.ref x0), .unset, .unset, .unset] [] 0 0 H Q := cl_unf rfl
theorem w24_0 : W (pj lw) 24 0 L S k n H Q ↔ W (pj lw) 24 1 L (.int 0 :: S) k n H Q := W_s (rfl : (pj lw).1 24 0 = some (.iconst 0, 1, 0)) rfl rfl rfl
theorem w24_1 {x : Int32} {l0 : Slot} : W (pj lw) 24 1 (l0 :: .unset :: L) (.int x :: S) k n H Q ↔ W (pj lw) 24 2 (l0 :: .val (.int x) :: L) S k n H Q := W_istn (rfl : (pj lw).1 24 1 = some (.istore_n 1, 1, 0)) rfl rfl
theorem w24_2 {x : Int32} {l0 : Slot} : W (pj lw) 24 2 (l0 :: .val (.int x) :: L) S k n H Q ↔ W (pj lw) 24 3 (l0 :: .val (.int x) :: L) (.int x :: S) k n H Q := W_s (rfl : (pj lw).1 24 2 = some (.iload_n 1, 1, 0)) rfl rfl rfl
theorem w24_3 {x : Nat} : W (pj lw) 24 3 (.val (.ref x) :: L) S k n H Q ↔ W (pj lw) 24 4 (.val (.ref x) :: L) (.ref x :: S) k n H Q := W_s (rfl : (pj lw).1 24 3 = some (.aload_n 0, 1, 0)) rfl rfl rfl
theorem w24_4 {a : Nat} : W (pj lw) 24 4 L (.ref a :: S) k n H Q ↔ (isO H a = true ∧ W (pj lw) 24 7 L (fld H a 18 :: S) k n H Q) := W_getf (rfl : (pj lw).1 24 4 = some (.getfield 70, 3, 18))
theorem w24_7 {x y : Int32} : W (pj lw) 24 7 L (.int y :: .int x :: S) k n H Q ↔ (if x < y then W (pj lw) 24 10 L S k n H Q else W (pj lw) 24 75 L S k n H Q) := W_icmp_ge (rfl : (pj lw).1 24 7 = some (.if_icmp .ge 68, 3, 0)) rfl
theorem w24_10 {x : Nat} : W (pj lw) 24 10 (.val (.ref x) :: L) S k n H Q ↔ W (pj lw) 24 11 (.val (.ref x) :: L) (.ref x :: S) k n H Q := W_s (rfl : (pj lw).1 24 10 = some (.aload_n 0, 1, 0)) rfl rfl rfl
theorem w24_11 {a : Nat} : W (pj lw) 24 11 L (.ref a :: S) k n H Q ↔ (isO H a = true ∧ W (pj lw) 24 14 L (fld H a 15 :: S) k n H Q) := W_getf (rfl : (pj lw).1 24 11 = some (.getfield 44, 3, 15))
theorem w24_14 {x : Int32} {l0 : Slot} : W (pj lw) 24 14 (l0 :: .val (.int x) :: L) S k n H Q ↔ W (pj lw) 24 15 (l0 :: .val (.int x) :: L) (.int x :: S) k n H Q := W_s (rfl : (pj lw).1 24 14 = some (.iload_n 1, 1, 0)) rfl rfl rfl
theorem w24_15 {i : Int32} {a : Nat} : W (pj lw) 24 15 L (.int i :: .ref a :: S) k n H Q ↔ (inA H a .int i = true ∧ W (pj lw) 24 16 L (elt H a i :: S) k n H Q) := W_iaload (rfl : (pj lw).1 24 15 = some (.iaload, 1, 0))
theorem w24_16i {y : Int32} {x : Int32} {l0 l1 : Slot} : W (pj lw) 24 16 (l0 :: l1 :: .val (.int y) :: L) (.int x :: S) k n H Q ↔ W (pj lw) 24 17 (l0 :: l1 :: .val (.int x) :: L) S k n H Q := W_istn (rfl : (pj lw).1 24 16 = some (.istore_n 2, 1, 0)) rfl rfl
theorem w24_16 {x : Int32} {l0 l1 : Slot} : W (pj lw) 24 16 (l0 :: l1 :: .unset :: L) (.int x :: S) k n H Q ↔ W (pj lw) 24 17 (l0 :: l1 :: .val (.int x) :: L) S k n H Q := W_istn (rfl : (pj lw).1 24 16 = some (.istore_n 2, 1, 0)) rfl rfl
theorem w24_17 {x : Nat} : W (pj lw) 24 17 (.val (.ref x) :: L) S k n H Q ↔ W (pj lw) 24 18 (.val (.ref x) :: L) (.ref x :: S) k n H Q := W_s (rfl : (pj lw).1 24 17 = some (.aload_n 0, 1, 0)) rfl rfl rfl
theorem w24_18 {a : Nat} : W (pj lw) 24 18 L (.ref a :: S) k n H Q ↔ (isO H a = true ∧ W (pj lw) 24 21 L (fld H a 16 :: S) k n H Q) := W_getf (rfl : (pj lw).1 24 18 = some (.getfield 47, 3, 16))
theorem w24_21 {x : Int32} {l0 : Slot} : W (pj lw) 24 21 (l0 :: .val (.int x) :: L) S k n H Q ↔ W (pj lw) 24 22 (l0 :: .val (.int x) :: L) (.int x :: S) k n H Q := W_s (rfl : (pj lw).1 24 21 = some (.iload_n 1, 1, 0)) rfl rfl rfl
theorem w24_22 {i : Int32} {a : Nat} : W (pj lw) 24 22 L (.int i :: .ref a :: S) k n H Q ↔ (inA H a .int i = true ∧ W (pj lw) 24 23 L (elt H a i :: S) k n H Q) := W_iaload (rfl : (pj lw).1 24 22 = some (.iaload, 1, 0))
theorem w24_23i {y : Int32} {x : Int32} {l0 l1 l2 : Slot} : W (pj lw) 24 23 (l0 :: l1 :: l2 :: .val (.int y) :: L) (.int x :: S) k n H Q ↔ W (pj lw) 24 24 (l0 :: l1 :: l2 :: .val (.int x) :: L) S k n H Q := W_istn (rfl : (pj lw).1 24 23 = some (.istore_n 3, 1, 0)) rfl rfl
theorem w24_23 {x : Int32} {l0 l1 l2 : Slot} : W (pj lw) 24 23 (l0 :: l1 :: l2 :: .unset :: L) (.int x :: S) k n H Q ↔ W (pj lw) 24 24 (l0 :: l1 :: l2 :: .val (.int x) :: L) S k n H Q := W_istn (rfl : (pj lw).1 24 23 = some (.istore_n 3, 1, 0)) rfl rfl
theorem w24_24 {x : Nat} : W (pj lw) 24 24 (.val (.ref x) :: L) S k n H Q ↔ W (pj lw) 24 25 (.val (.ref x) :: L) (.ref x :: S) k n H Q := W_s (rfl : (pj lw).1 24 24 = some (.aload_n 0, 1, 0)) rfl rfl rfl
theorem w24_25 {x : Int32} {l0 l1 : Slot} : W (pj lw) 24 25 (l0 :: l1 :: .val (.int x) :: L) S k n H Q ↔ W (pj lw) 24 26 (l0 :: l1 :: .val (.int x) :: L) (.int x :: S) k n H Q := W_s (rfl : (pj lw).1 24 25 = some (.iload_n 2, 1, 0)) rfl rfl rfl
theorem w24_26 {x : Int32} {l0 l1 l2 : Slot} : W (pj lw) 24 26 (l0 :: l1 :: l2 :: .val (.int x) :: L) S k n H Q ↔ W (pj lw) 24 27 (l0 :: l1 :: l2 :: .val (.int x) :: L) (.int x :: S) k n H Q := W_s (rfl : (pj lw).1 24 26 = some (.iload_n 3, 1, 0)) rfl rfl rfl
theorem w24_27 {a : Nat} {x0 : Int32} {x1 : Int32} : W (pj lw) 24 27 L (.int x1 :: .int x0 :: .ref a :: S) k n H Q ↔ ((isO H a = true ∧ cs S + (3 + 11) + 0 ≤ 28) ∧ Cl (pj lw) 23 [.ref a, .int x0, .int x1] H (fun v H => W (pj lw) 24 30 L (v.toList ++ S) k n H Q)) := W_inst (as := [.int x0, .int x1]) (rfl : (pj lw).1 24 27 = some (.invokevirtual 131, 3, 23)) rfl rfl rfl (Nat.le_of_ble_eq_true rfl) (Nat.le_of_ble_eq_true rfl) ⟨rfl, rfl⟩
theorem w24_30 {x : Int32} : W (pj lw) 24 30 L (.int x :: S) k n H Q ↔ (if x = 0 then W (pj lw) 24 48 L S k n H Q else W (pj lw) 24 33 L S k n H Q) := W_if_eq (rfl : (pj lw).1 24 30 = some (.ifCond .eq 18, 3, 0)) rfl
theorem w24_33 {x : Nat} : W (pj lw) 24 33 (.val (.ref x) :: L) S k n H Q ↔ W (pj lw) 24 34 (.val (.ref x) :: L) (.ref x :: S) k n H Q := W_s (rfl : (pj lw).1 24 33 = some (.aload_n 0, 1, 0)) rfl rfl rfl
theorem w24_34 {x : Int32} {l0 l1 : Slot} : W (pj lw) 24 34 (l0 :: l1 :: .val (.int x) :: L) S k n H Q ↔ W (pj lw) 24 35 (l0 :: l1 :: .val (.int x) :: L) (.int x :: S) k n H Q := W_s (rfl : (pj lw).1 24 34 = some (.iload_n 2, 1, 0)) rfl rfl rfl
theorem w24_35 {x : Int32} {l0 l1 l2 : Slot} : W (pj lw) 24 35 (l0 :: l1 :: l2 :: .val (.int x) :: L) S k n H Q ↔ W (pj lw) 24 36 (l0 :: l1 :: l2 :: .val (.int x) :: L) (.int x :: S) k n H Q := W_s (rfl : (pj lw).1 24 35 = some (.iload_n 3, 1, 0)) rfl rfl rfl
theorem w24_36 {x : Nat} : W (pj lw) 24 36 (.val (.ref x) :: L) S k n H Q ↔ W (pj lw) 24 37 (.val (.ref x) :: L) (.ref x :: S) k n H Q := W_s (rfl : (pj lw).1 24 36 = some (.aload_n 0, 1, 0)) rfl rfl rfl
theorem w24_37 {a : Nat} : W (pj lw) 24 37 L (.ref a :: S) k n H Q ↔ (isO H a = true ∧ W (pj lw) 24 40 L (fld H a 17 :: S) k n H Q) := W_getf (rfl : (pj lw).1 24 37 = some (.getfield 50, 3, 17))
theorem w24_40 {x : Int32} {l0 : Slot} : W (pj lw) 24 40 (l0 :: .val (.int x) :: L) S k n H Q ↔ W (pj lw) 24 41 (l0 :: .val (.int x) :: L) (.int x :: S) k n H Q := W_s (rfl : (pj lw).1 24 40 = some (.iload_n 1, 1, 0)) rfl rfl rfl
theorem w24_41 {i : Int32} {a : Nat} : W (pj lw) 24 41 L (.int i :: .ref a :: S) k n H Q ↔ (inA H a .int i = true ∧ W (pj lw) 24 42 L (elt H a i :: S) k n H Q) := W_iaload (rfl : (pj lw).1 24 41 = some (.iaload, 1, 0))
theorem w24_42 {a : Nat} {x0 : Int32} {x1 : Int32} {x2 : Int32} : W (pj lw) 24 42 L (.int x2 :: .int x1 :: .int x0 :: .ref a :: S) k n H Q ↔ ((isO H a = true ∧ cs S + (5 + 11) + 12 ≤ 28) ∧ Cl (pj lw) 25 [.ref a, .int x0, .int x1, .int x2] H (fun v H => W (pj lw) 24 45 L (v.toList ++ S) k n H Q)) := W_inst (as := [.int x0, .int x1, .int x2]) (rfl : (pj lw).1 24 42 = some (.invokevirtual 134, 3, 25)) rfl rfl rfl (Nat.le_of_ble_eq_true rfl) (Nat.le_of_ble_eq_true rfl) ⟨rfl, rfl⟩
theorem w24_45 : W (pj lw) 24 45 L S k n H Q ↔ W (pj lw) 24 69 L S k n H Q := W_goto (rfl : (pj lw).1 24 45 = some (.goto 24, 3, 0)) rfl
theorem w24_48 {x : Nat} : W (pj lw) 24 48 (.val (.ref x) :: L) S k n H Q ↔ W (pj lw) 24 49 (.val (.ref x) :: L) (.ref x :: S) k n H Q := W_s (rfl : (pj lw).1 24 48 = some (.aload_n 0, 1, 0)) rfl rfl rfl
theorem w24_49 {x : Int32} {l0 l1 l2 : Slot} : W (pj lw) 24 49 (l0 :: l1 :: l2 :: .val (.int x) :: L) S k n H Q ↔ W (pj lw) 24 50 (l0 :: l1 :: l2 :: .val (.int x) :: L) (.int x :: S) k n H Q := W_s (rfl : (pj lw).1 24 49 = some (.iload_n 3, 1, 0)) rfl rfl rfl
theorem w24_50 {x : Int32} {l0 l1 : Slot} : W (pj lw) 24 50 (l0 :: l1 :: .val (.int x) :: L) S k n H Q ↔ W (pj lw) 24 51 (l0 :: l1 :: .val (.int x) :: L) (.int x :: S) k n H Q := W_s (rfl : (pj lw).1 24 50 = some (.iload_n 2, 1, 0)) rfl rfl rfl
theorem w24_51 {a : Nat} {x0 : Int32} {x1 : Int32} : W (pj lw) 24 51 L (.int x1 :: .int x0 :: .ref a :: S) k n H Q ↔ ((isO H a = true ∧ cs S + (3 + 11) + 0 ≤ 28) ∧ Cl (pj lw) 23 [.ref a, .int x0, .int x1] H (fun v H => W (pj lw) 24 54 L (v.toList ++ S) k n H Q)) := W_inst (as := [.int x0, .int x1]) (rfl : (pj lw).1 24 51 = some (.invokevirtual 131, 3, 23)) rfl rfl rfl (Nat.le_of_ble_eq_true rfl) (Nat.le_of_ble_eq_true rfl) ⟨rfl, rfl⟩
theorem w24_54 {x : Int32} : W (pj lw) 24 54 L (.int x :: S) k n H Q ↔ (if x = 0 then W (pj lw) 24 69 L S k n H Q else W (pj lw) 24 57 L S k n H Q) := W_if_eq (rfl : (pj lw).1 24 54 = some (.ifCond .eq 15, 3, 0)) rfl
theorem w24_57 {x : Nat} : W (pj lw) 24 57 (.val (.ref x) :: L) S k n H Q ↔ W (pj lw) 24 58 (.val (.ref x) :: L) (.ref x :: S) k n H Q := W_s (rfl : (pj lw).1 24 57 = some (.aload_n 0, 1, 0)) rfl rfl rfl
theorem w24_58 {x : Int32} {l0 l1 l2 : Slot} : W (pj lw) 24 58 (l0 :: l1 :: l2 :: .val (.int x) :: L) S k n H Q ↔ W (pj lw) 24 59 (l0 :: l1 :: l2 :: .val (.int x) :: L) (.int x :: S) k n H Q := W_s (rfl : (pj lw).1 24 58 = some (.iload_n 3, 1, 0)) rfl rfl rfl
theorem w24_59 {x : Int32} {l0 l1 : Slot} : W (pj lw) 24 59 (l0 :: l1 :: .val (.int x) :: L) S k n H Q ↔ W (pj lw) 24 60 (l0 :: l1 :: .val (.int x) :: L) (.int x :: S) k n H Q := W_s (rfl : (pj lw).1 24 59 = some (.iload_n 2, 1, 0)) rfl rfl rfl
theorem w24_60 {x : Nat} : W (pj lw) 24 60 (.val (.ref x) :: L) S k n H Q ↔ W (pj lw) 24 61 (.val (.ref x) :: L) (.ref x :: S) k n H Q := W_s (rfl : (pj lw).1 24 60 = some (.aload_n 0, 1, 0)) rfl rfl rfl
theorem w24_61 {a : Nat} : W (pj lw) 24 61 L (.ref a :: S) k n H Q ↔ (isO H a = true ∧ W (pj lw) 24 64 L (fld H a 17 :: S) k n H Q) := W_getf (rfl : (pj lw).1 24 61 = some (.getfield 50, 3, 17))
theorem w24_64 {x : Int32} {l0 : Slot} : W (pj lw) 24 64 (l0 :: .val (.int x) :: L) S k n H Q ↔ W (pj lw) 24 65 (l0 :: .val (.int x) :: L) (.int x :: S) k n H Q := W_s (rfl : (pj lw).1 24 64 = some (.iload_n 1, 1, 0)) rfl rfl rfl
theorem w24_65 {i : Int32} {a : Nat} : W (pj lw) 24 65 L (.int i :: .ref a :: S) k n H Q ↔ (inA H a .int i = true ∧ W (pj lw) 24 66 L (elt H a i :: S) k n H Q) := W_iaload (rfl : (pj lw).1 24 65 = some (.iaload, 1, 0))
theorem w24_66 {a : Nat} {x0 : Int32} {x1 : Int32} {x2 : Int32} : W (pj lw) 24 66 L (.int x2 :: .int x1 :: .int x0 :: .ref a :: S) k n H Q ↔ ((isO H a = true ∧ cs S + (5 + 11) + 12 ≤ 28) ∧ Cl (pj lw) 25 [.ref a, .int x0, .int x1, .int x2] H (fun v H => W (pj lw) 24 69 L (v.toList ++ S) k n H Q)) := W_inst (as := [.int x0, .int x1, .int x2]) (rfl : (pj lw).1 24 66 = some (.invokevirtual 134, 3, 25)) rfl rfl rfl (Nat.le_of_ble_eq_true rfl) (Nat.le_of_ble_eq_true rfl) ⟨rfl, rfl⟩
theorem w24_69 {x : Int32} {l0 : Slot} : W (pj lw) 24 69 (l0 :: .val (.int x) :: L) S k n H Q ↔ W (pj lw) 24 72 (l0 :: .val (.int (x + 1)) :: L) S k n H Q := W_s (rfl : (pj lw).1 24 69 = some (.iinc 1 1, 3, 0)) rfl rfl rfl
theorem w24_72 : W (pj lw) 24 72 L S k n H Q ↔ W (pj lw) 24 2 L S k n H Q := W_goto (rfl : (pj lw).1 24 72 = some (.goto (-70), 3, 0)) rfl
theorem w24_75 : W (pj lw) 24 75 L [] k n H Q ↔ Q none H := W_r (rfl : (pj lw).1 24 75 = some (.return_, 1, 0)) rfl
theorem c25 {x0 : Nat} {x1 : Int32} {x2 : Int32} {x3 : Int32} : Cl (pj lw) 25 [.ref x0, .int x1, .int x2, .int x3] H Q ↔ W (pj lw) 25 0 [.val (.ref x0), .val (.int x1), .val (.int x2), .val (.int x3), .unset] [] 0 0 H Q := cl_unf rfl
theorem w25_0 {x : Nat} : W (pj lw) 25 0 (.val (.ref x) :: L) S k n H Q ↔ W (pj lw) 25 1 (.val (.ref x) :: L) (.ref x :: S) k n H Q := W_s (rfl : (pj lw).1 25 0 = some (.aload_n 0, 1, 0)) rfl rfl rfl
theorem w25_1 {a : Nat} : W (pj lw) 25 1 L (.ref a :: S) k n H Q ↔ ((isO H a = true ∧ cs S + (1 + 11) + 0 ≤ 12) ∧ Cl (pj lw) 19 [.ref a] H (fun v H => W (pj lw) 25 4 L (v.toList ++ S) k n H Q)) := W_inst (as := []) (rfl : (pj lw).1 25 1 = some (.invokevirtual 138, 3, 19)) rfl rfl rfl (Nat.le_of_ble_eq_true rfl) (Nat.le_of_ble_eq_true rfl) ⟨rfl, rfl⟩
theorem w25_4 {x : Int32} {l0 l1 l2 l3 : Slot} : W (pj lw) 25 4 (l0 :: l1 :: l2 :: l3 :: .unset :: L) (.int x :: S) k n H Q ↔ W (pj lw) 25 6 (l0 :: l1 :: l2 :: l3 :: .val (.int x) :: L) S k n H Q := W_ist (rfl : (pj lw).1 25 4 = some (.istore 4, 2, 0)) rfl rfl
theorem w25_6 {x : Int32} {l0 l1 l2 l3 : Slot} : W (pj lw) 25 6 (l0 :: l1 :: l2 :: l3 :: .val (.int x) :: L) S k n H Q ↔ W (pj lw) 25 8 (l0 :: l1 :: l2 :: l3 :: .val (.int x) :: L) (.int x :: S) k n H Q := W_s (rfl : (pj lw).1 25 6 = some (.iload 4, 2, 0)) rfl rfl rfl
theorem w25_8 {x : Int32} {l0 l1 l2 : Slot} : W (pj lw) 25 8 (l0 :: l1 :: l2 :: .val (.int x) :: L) S k n H Q ↔ W (pj lw) 25 9 (l0 :: l1 :: l2 :: .val (.int x) :: L) (.int x :: S) k n H Q := W_s (rfl : (pj lw).1 25 8 = some (.iload_n 3, 1, 0)) rfl rfl rfl
theorem w25_9 {x y : Int32} : W (pj lw) 25 9 L (.int y :: .int x :: S) k n H Q ↔ (if x < y then W (pj lw) 25 12 L S k n H Q else W (pj lw) 25 71 L S k n H Q) := W_icmp_ge (rfl : (pj lw).1 25 9 = some (.if_icmp .ge 62, 3, 0)) rfl
theorem w25_12 {x : Nat} : W (pj lw) 25 12 (.val (.ref x) :: L) S k n H Q ↔ W (pj lw) 25 13 (.val (.ref x) :: L) (.ref x :: S) k n H Q := W_s (rfl : (pj lw).1 25 12 = some (.aload_n 0, 1, 0)) rfl rfl rfl
theorem w25_13 {a : Nat} : W (pj lw) 25 13 L (.ref a :: S) k n H Q ↔ (isO H a = true ∧ W (pj lw) 25 16 L (fld H a 4 :: S) k n H Q) := W_getf (rfl : (pj lw).1 25 13 = some (.getfield 7, 3, 4))
theorem w25_16 {x : Int32} {l0 l1 : Slot} : W (pj lw) 25 16 (l0 :: l1 :: .val (.int x) :: L) S k n H Q ↔ W (pj lw) 25 17 (l0 :: l1 :: .val (.int x) :: L) (.int x :: S) k n H Q := W_s (rfl : (pj lw).1 25 16 = some (.iload_n 2, 1, 0)) rfl rfl rfl
theorem w25_17 {i : Int32} {a : Nat} : W (pj lw) 25 17 L (.int i :: .ref a :: S) k n H Q ↔ (inA H a .int i = true ∧ W (pj lw) 25 18 L (elt H a i :: S) k n H Q) := W_iaload (rfl : (pj lw).1 25 17 = some (.iaload, 1, 0))
theorem w25_18 {x : Int32} : W (pj lw) 25 18 L (.int x :: S) k n H Q ↔ (if x = 0 then W (pj lw) 25 21 L S k n H Q else W (pj lw) 25 71 L S k n H Q) := W_if_ne (rfl : (pj lw).1 25 18 = some (.ifCond .ne 53, 3, 0)) rfl
theorem w25_21 {x : Nat} : W (pj lw) 25 21 (.val (.ref x) :: L) S k n H Q ↔ W (pj lw) 25 22 (.val (.ref x) :: L) (.ref x :: S) k n H Q := W_s (rfl : (pj lw).1 25 21 = some (.aload_n 0, 1, 0)) rfl rfl rfl
theorem w25_22 {a : Nat} : W (pj lw) 25 22 L (.ref a :: S) k n H Q ↔ (isO H a = true ∧ W (pj lw) 25 25 L (fld H a 4 :: S) k n H Q) := W_getf (rfl : (pj lw).1 25 22 = some (.getfield 7, 3, 4))
theorem w25_25 {x : Int32} {l0 l1 : Slot} : W (pj lw) 25 25 (l0 :: l1 :: .val (.int x) :: L) S k n H Q ↔ W (pj lw) 25 26 (l0 :: l1 :: .val (.int x) :: L) (.int x :: S) k n H Q := W_s (rfl : (pj lw).1 25 25 = some (.iload_n 2, 1, 0)) rfl rfl rfl
theorem w25_26 : W (pj lw) 25 26 L S k n H Q ↔ W (pj lw) 25 27 L (.int 1 :: S) k n H Q := W_s (rfl : (pj lw).1 25 26 = some (.iconst 1, 1, 0)) rfl rfl rfl
theorem w25_27 {x i : Int32} {a : Nat} : W (pj lw) 25 27 L (.int x :: .int i :: .ref a :: S) k n H Q ↔ (inAw H a .int i = true ∧ W (pj lw) 25 28 L S k n (wr H a i.toNatClampNeg (.int x)) Q) := W_iastore (rfl : (pj lw).1 25 27 = some (.iastore, 1, 0))
theorem w25_28 {x : Nat} : W (pj lw) 25 28 (.val (.ref x) :: L) S k n H Q ↔ W (pj lw) 25 29 (.val (.ref x) :: L) (.ref x :: S) k n H Q := W_s (rfl : (pj lw).1 25 28 = some (.aload_n 0, 1, 0)) rfl rfl rfl
theorem w25_29 {a : Nat} : W (pj lw) 25 29 L (.ref a :: S) k n H Q ↔ (isO H a = true ∧ W (pj lw) 25 32 L (fld H a 5 :: S) k n H Q) := W_getf (rfl : (pj lw).1 25 29 = some (.getfield 13, 3, 5))
theorem w25_32 {x : Int32} {l0 l1 : Slot} : W (pj lw) 25 32 (l0 :: l1 :: .val (.int x) :: L) S k n H Q ↔ W (pj lw) 25 33 (l0 :: l1 :: .val (.int x) :: L) (.int x :: S) k n H Q := W_s (rfl : (pj lw).1 25 32 = some (.iload_n 2, 1, 0)) rfl rfl rfl
theorem w25_33 {x : Nat} : W (pj lw) 25 33 (.val (.ref x) :: L) S k n H Q ↔ W (pj lw) 25 34 (.val (.ref x) :: L) (.ref x :: S) k n H Q := W_s (rfl : (pj lw).1 25 33 = some (.aload_n 0, 1, 0)) rfl rfl rfl
theorem w25_34 {a : Nat} : W (pj lw) 25 34 L (.ref a :: S) k n H Q ↔ (isO H a = true ∧ W (pj lw) 25 37 L (fld H a 1 :: S) k n H Q) := W_getf (rfl : (pj lw).1 25 34 = some (.getfield 61, 3, 1))
theorem w25_37 {x i : Int32} {a : Nat} : W (pj lw) 25 37 L (.int x :: .int i :: .ref a :: S) k n H Q ↔ (inAw H a .int i = true ∧ W (pj lw) 25 38 L S k n (wr H a i.toNatClampNeg (.int x)) Q) := W_iastore (rfl : (pj lw).1 25 37 = some (.iastore, 1, 0))
theorem w25_38 {x : Nat} : W (pj lw) 25 38 (.val (.ref x) :: L) S k n H Q ↔ W (pj lw) 25 39 (.val (.ref x) :: L) (.ref x :: S) k n H Q := W_s (rfl : (pj lw).1 25 38 = some (.aload_n 0, 1, 0)) rfl rfl rfl
theorem w25_39 {a : Nat} : W (pj lw) 25 39 L (.ref a :: S) k n H Q ↔ (isO H a = true ∧ W (pj lw) 25 42 L (fld H a 9 :: S) k n H Q) := W_getf (rfl : (pj lw).1 25 39 = some (.getfield 26, 3, 9))
theorem w25_42 {x : Int32} {l0 l1 : Slot} : W (pj lw) 25 42 (l0 :: l1 :: .val (.int x) :: L) S k n H Q ↔ W (pj lw) 25 43 (l0 :: l1 :: .val (.int x) :: L) (.int x :: S) k n H Q := W_s (rfl : (pj lw).1 25 42 = some (.iload_n 2, 1, 0)) rfl rfl rfl
theorem w25_43 {x : Int32} {l0 : Slot} : W (pj lw) 25 43 (l0 :: .val (.int x) :: L) S k n H Q ↔ W (pj lw) 25 44 (l0 :: .val (.int x) :: L) (.int x :: S) k n H Q := W_s (rfl : (pj lw).1 25 43 = some (.iload_n 1, 1, 0)) rfl rfl rfl
theorem w25_44 {x i : Int32} {a : Nat} : W (pj lw) 25 44 L (.int x :: .int i :: .ref a :: S) k n H Q ↔ (inAw H a .int i = true ∧ W (pj lw) 25 45 L S k n (wr H a i.toNatClampNeg (.int x)) Q) := W_iastore (rfl : (pj lw).1 25 44 = some (.iastore, 1, 0))
theorem w25_45 {x : Nat} : W (pj lw) 25 45 (.val (.ref x) :: L) S k n H Q ↔ W (pj lw) 25 46 (.val (.ref x) :: L) (.ref x :: S) k n H Q := W_s (rfl : (pj lw).1 25 45 = some (.aload_n 0, 1, 0)) rfl rfl rfl
theorem w25_46 {a : Nat} : W (pj lw) 25 46 L (.ref a :: S) k n H Q ↔ (isO H a = true ∧ W (pj lw) 25 49 L (fld H a 10 :: S) k n H Q) := W_getf (rfl : (pj lw).1 25 46 = some (.getfield 29, 3, 10))
theorem w25_49 {x : Int32} {l0 l1 : Slot} : W (pj lw) 25 49 (l0 :: l1 :: .val (.int x) :: L) S k n H Q ↔ W (pj lw) 25 50 (l0 :: l1 :: .val (.int x) :: L) (.int x :: S) k n H Q := W_s (rfl : (pj lw).1 25 49 = some (.iload_n 2, 1, 0)) rfl rfl rfl
theorem w25_50 {x : Nat} : W (pj lw) 25 50 (.val (.ref x) :: L) S k n H Q ↔ W (pj lw) 25 51 (.val (.ref x) :: L) (.ref x :: S) k n H Q := W_s (rfl : (pj lw).1 25 50 = some (.aload_n 0, 1, 0)) rfl rfl rfl
theorem w25_51 {a : Nat} : W (pj lw) 25 51 L (.ref a :: S) k n H Q ↔ (isO H a = true ∧ W (pj lw) 25 54 L (fld H a 22 :: S) k n H Q) := W_getf (rfl : (pj lw).1 25 51 = some (.getfield 82, 3, 22))
theorem w25_54 : W (pj lw) 25 54 L S k n H Q ↔ W (pj lw) 25 55 L (.int 1 :: S) k n H Q := W_s (rfl : (pj lw).1 25 54 = some (.iconst 1, 1, 0)) rfl rfl rfl
theorem w25_55 {x y : Int32} : W (pj lw) 25 55 L (.int y :: .int x :: S) k n H Q ↔ W (pj lw) 25 56 L (.int (x + y) :: S) k n H Q := W_s (rfl : (pj lw).1 25 55 = some (.iadd, 1, 0)) rfl rfl rfl
theorem w25_56 {x i : Int32} {a : Nat} : W (pj lw) 25 56 L (.int x :: .int i :: .ref a :: S) k n H Q ↔ (inAw H a .int i = true ∧ W (pj lw) 25 57 L S k n (wr H a i.toNatClampNeg (.int x)) Q) := W_iastore (rfl : (pj lw).1 25 56 = some (.iastore, 1, 0))
theorem w25_57 {x : Nat} : W (pj lw) 25 57 (.val (.ref x) :: L) S k n H Q ↔ W (pj lw) 25 58 (.val (.ref x) :: L) (.ref x :: S) k n H Q := W_s (rfl : (pj lw).1 25 57 = some (.aload_n 0, 1, 0)) rfl rfl rfl
theorem w25_58 {a : Nat} : W (pj lw) 25 58 L (.ref a :: S) k n H Q ↔ (isO H a = true ∧ W (pj lw) 25 61 L (fld H a 11 :: S) k n H Q) := W_getf (rfl : (pj lw).1 25 58 = some (.getfield 32, 3, 11))
theorem w25_61 {x : Int32} {l0 l1 : Slot} : W (pj lw) 25 61 (l0 :: l1 :: .val (.int x) :: L) S k n H Q ↔ W (pj lw) 25 62 (l0 :: l1 :: .val (.int x) :: L) (.int x :: S) k n H Q := W_s (rfl : (pj lw).1 25 61 = some (.iload_n 2, 1, 0)) rfl rfl rfl
theorem w25_62 {x : Nat} : W (pj lw) 25 62 (.val (.ref x) :: L) S k n H Q ↔ W (pj lw) 25 63 (.val (.ref x) :: L) (.ref x :: S) k n H Q := W_s (rfl : (pj lw).1 25 62 = some (.aload_n 0, 1, 0)) rfl rfl rfl
theorem w25_63 {a : Nat} : W (pj lw) 25 63 L (.ref a :: S) k n H Q ↔ (isO H a = true ∧ W (pj lw) 25 66 L (fld H a 11 :: S) k n H Q) := W_getf (rfl : (pj lw).1 25 63 = some (.getfield 32, 3, 11))
theorem w25_66 {x : Int32} {l0 : Slot} : W (pj lw) 25 66 (l0 :: .val (.int x) :: L) S k n H Q ↔ W (pj lw) 25 67 (l0 :: .val (.int x) :: L) (.int x :: S) k n H Q := W_s (rfl : (pj lw).1 25 66 = some (.iload_n 1, 1, 0)) rfl rfl rfl
theorem w25_67 {i : Int32} {a : Nat} : W (pj lw) 25 67 L (.int i :: .ref a :: S) k n H Q ↔ (inA H a .int i = true ∧ W (pj lw) 25 68 L (elt H a i :: S) k n H Q) := W_iaload (rfl : (pj lw).1 25 67 = some (.iaload, 1, 0))
theorem w25_68 : W (pj lw) 25 68 L S k n H Q ↔ W (pj lw) 25 69 L (.int 1 :: S) k n H Q := W_s (rfl : (pj lw).1 25 68 = some (.iconst 1, 1, 0)) rfl rfl rfl
theorem w25_69 {x y : Int32} : W (pj lw) 25 69 L (.int y :: .int x :: S) k n H Q ↔ W (pj lw) 25 70 L (.int (x + y) :: S) k n H Q := W_s (rfl : (pj lw).1 25 69 = some (.iadd, 1, 0)) rfl rfl rfl
theorem w25_70 {x i : Int32} {a : Nat} : W (pj lw) 25 70 L (.int x :: .int i :: .ref a :: S) k n H Q ↔ (inAw H a .int i = true ∧ W (pj lw) 25 71 L S k n (wr H a i.toNatClampNeg (.int x)) Q) := W_iastore (rfl : (pj lw).1 25 70 = some (.iastore, 1, 0))
theorem w25_71 : W (pj lw) 25 71 L [] k n H Q ↔ Q none H := W_r (rfl : (pj lw).1 25 71 = some (.return_, 1, 0)) rfl
theorem c26 {x0 : Nat} : Cl (pj lw) 26 [.ref x0] H Q ↔ W (pj lw) 26 0 [.val (.ref x0), .unset] [] 0 0 H Q := cl_unf rfl
theorem w26_0 : W (pj lw) 26 0 L S k n H Q ↔ W (pj lw) 26 1 L (.int 0 :: S) k n H Q := W_s (rfl : (pj lw).1 26 0 = some (.iconst 0, 1, 0)) rfl rfl rfl
theorem w26_1 {x : Int32} {l0 : Slot} : W (pj lw) 26 1 (l0 :: .unset :: L) (.int x :: S) k n H Q ↔ W (pj lw) 26 2 (l0 :: .val (.int x) :: L) S k n H Q := W_istn (rfl : (pj lw).1 26 1 = some (.istore_n 1, 1, 0)) rfl rfl
theorem w26_2 {x : Int32} {l0 : Slot} : W (pj lw) 26 2 (l0 :: .val (.int x) :: L) S k n H Q ↔ W (pj lw) 26 3 (l0 :: .val (.int x) :: L) (.int x :: S) k n H Q := W_s (rfl : (pj lw).1 26 2 = some (.iload_n 1, 1, 0)) rfl rfl rfl
theorem w26_3 {x : Nat} : W (pj lw) 26 3 (.val (.ref x) :: L) S k n H Q ↔ W (pj lw) 26 4 (.val (.ref x) :: L) (.ref x :: S) k n H Q := W_s (rfl : (pj lw).1 26 3 = some (.aload_n 0, 1, 0)) rfl rfl rfl
theorem w26_4 {a : Nat} : W (pj lw) 26 4 L (.ref a :: S) k n H Q ↔ (isO H a = true ∧ W (pj lw) 26 7 L (fld H a 0 :: S) k n H Q) := W_getf (rfl : (pj lw).1 26 4 = some (.getfield 57, 3, 0))
theorem w26_7 {x y : Int32} : W (pj lw) 26 7 L (.int y :: .int x :: S) k n H Q ↔ (if x < y then W (pj lw) 26 10 L S k n H Q else W (pj lw) 26 109 L S k n H Q) := W_icmp_ge (rfl : (pj lw).1 26 7 = some (.if_icmp .ge 102, 3, 0)) rfl
theorem w26_10 {x : Nat} : W (pj lw) 26 10 (.val (.ref x) :: L) S k n H Q ↔ W (pj lw) 26 11 (.val (.ref x) :: L) (.ref x :: S) k n H Q := W_s (rfl : (pj lw).1 26 10 = some (.aload_n 0, 1, 0)) rfl rfl rfl
theorem w26_11 {a : Nat} : W (pj lw) 26 11 L (.ref a :: S) k n H Q ↔ (isO H a = true ∧ W (pj lw) 26 14 L (fld H a 12 :: S) k n H Q) := W_getf (rfl : (pj lw).1 26 11 = some (.getfield 35, 3, 12))
theorem w26_14 {x : Int32} {l0 : Slot} : W (pj lw) 26 14 (l0 :: .val (.int x) :: L) S k n H Q ↔ W (pj lw) 26 15 (l0 :: .val (.int x) :: L) (.int x :: S) k n H Q := W_s (rfl : (pj lw).1 26 14 = some (.iload_n 1, 1, 0)) rfl rfl rfl
theorem w26_15 {i : Int32} {a : Nat} : W (pj lw) 26 15 L (.int i :: .ref a :: S) k n H Q ↔ (inA H a .int i = true ∧ W (pj lw) 26 16 L (elt H a i :: S) k n H Q) := W_iaload (rfl : (pj lw).1 26 15 = some (.iaload, 1, 0))
theorem w26_16 : W (pj lw) 26 16 L S k n H Q ↔ W (pj lw) 26 17 L (.int 1 :: S) k n H Q := W_s (rfl : (pj lw).1 26 16 = some (.iconst 1, 1, 0)) rfl rfl rfl
theorem w26_17 {x y : Int32} : W (pj lw) 26 17 L (.int y :: .int x :: S) k n H Q ↔ (if x = y then W (pj lw) 26 20 L S k n H Q else W (pj lw) 26 63 L S k n H Q) := W_icmp_ne (rfl : (pj lw).1 26 17 = some (.if_icmp .ne 46, 3, 0)) rfl
theorem w26_20 {x : Nat} : W (pj lw) 26 20 (.val (.ref x) :: L) S k n H Q ↔ W (pj lw) 26 21 (.val (.ref x) :: L) (.ref x :: S) k n H Q := W_s (rfl : (pj lw).1 26 20 = some (.aload_n 0, 1, 0)) rfl rfl rfl
theorem w26_21 {a : Nat} : W (pj lw) 26 21 L (.ref a :: S) k n H Q ↔ (isO H a = true ∧ W (pj lw) 26 24 L (fld H a 5 :: S) k n H Q) := W_getf (rfl : (pj lw).1 26 21 = some (.getfield 13, 3, 5))
theorem w26_24 {x : Int32} {l0 : Slot} : W (pj lw) 26 24 (l0 :: .val (.int x) :: L) S k n H Q ↔ W (pj lw) 26 25 (l0 :: .val (.int x) :: L) (.int x :: S) k n H Q := W_s (rfl : (pj lw).1 26 24 = some (.iload_n 1, 1, 0)) rfl rfl rfl
theorem w26_25 {x : Nat} : W (pj lw) 26 25 (.val (.ref x) :: L) S k n H Q ↔ W (pj lw) 26 26 (.val (.ref x) :: L) (.ref x :: S) k n H Q := W_s (rfl : (pj lw).1 26 25 = some (.aload_n 0, 1, 0)) rfl rfl rfl
theorem w26_26 {a : Nat} : W (pj lw) 26 26 L (.ref a :: S) k n H Q ↔ (isO H a = true ∧ W (pj lw) 26 29 L (fld H a 5 :: S) k n H Q) := W_getf (rfl : (pj lw).1 26 26 = some (.getfield 13, 3, 5))
theorem w26_29 {x : Int32} {l0 : Slot} : W (pj lw) 26 29 (l0 :: .val (.int x) :: L) S k n H Q ↔ W (pj lw) 26 30 (l0 :: .val (.int x) :: L) (.int x :: S) k n H Q := W_s (rfl : (pj lw).1 26 29 = some (.iload_n 1, 1, 0)) rfl rfl rfl
theorem w26_30 {i : Int32} {a : Nat} : W (pj lw) 26 30 L (.int i :: .ref a :: S) k n H Q ↔ (inA H a .int i = true ∧ W (pj lw) 26 31 L (elt H a i :: S) k n H Q) := W_iaload (rfl : (pj lw).1 26 30 = some (.iaload, 1, 0))
theorem w26_31 : W (pj lw) 26 31 L S k n H Q ↔ W (pj lw) 26 32 L (.int 1 :: S) k n H Q := W_s (rfl : (pj lw).1 26 31 = some (.iconst 1, 1, 0)) rfl rfl rfl
theorem w26_32 {x y : Int32} : W (pj lw) 26 32 L (.int y :: .int x :: S) k n H Q ↔ W (pj lw) 26 33 L (.int (x - y) :: S) k n H Q := W_s (rfl : (pj lw).1 26 32 = some (.isub, 1, 0)) rfl rfl rfl
theorem w26_33 {x i : Int32} {a : Nat} : W (pj lw) 26 33 L (.int x :: .int i :: .ref a :: S) k n H Q ↔ (inAw H a .int i = true ∧ W (pj lw) 26 34 L S k n (wr H a i.toNatClampNeg (.int x)) Q) := W_iastore (rfl : (pj lw).1 26 33 = some (.iastore, 1, 0))
theorem w26_34 {x : Nat} : W (pj lw) 26 34 (.val (.ref x) :: L) S k n H Q ↔ W (pj lw) 26 35 (.val (.ref x) :: L) (.ref x :: S) k n H Q := W_s (rfl : (pj lw).1 26 34 = some (.aload_n 0, 1, 0)) rfl rfl rfl
theorem w26_35 {a : Nat} : W (pj lw) 26 35 L (.ref a :: S) k n H Q ↔ (isO H a = true ∧ W (pj lw) 26 38 L (fld H a 5 :: S) k n H Q) := W_getf (rfl : (pj lw).1 26 35 = some (.getfield 13, 3, 5))
theorem w26_38 {x : Int32} {l0 : Slot} : W (pj lw) 26 38 (l0 :: .val (.int x) :: L) S k n H Q ↔ W (pj lw) 26 39 (l0 :: .val (.int x) :: L) (.int x :: S) k n H Q := W_s (rfl : (pj lw).1 26 38 = some (.iload_n 1, 1, 0)) rfl rfl rfl
theorem w26_39 {i : Int32} {a : Nat} : W (pj lw) 26 39 L (.int i :: .ref a :: S) k n H Q ↔ (inA H a .int i = true ∧ W (pj lw) 26 40 L (elt H a i :: S) k n H Q) := W_iaload (rfl : (pj lw).1 26 39 = some (.iaload, 1, 0))
theorem w26_40 {x : Int32} : W (pj lw) 26 40 L (.int x :: S) k n H Q ↔ (if x = 0 then W (pj lw) 26 43 L S k n H Q else W (pj lw) 26 103 L S k n H Q) := W_if_ne (rfl : (pj lw).1 26 40 = some (.ifCond .ne 63, 3, 0)) rfl
theorem w26_43 {x : Nat} : W (pj lw) 26 43 (.val (.ref x) :: L) S k n H Q ↔ W (pj lw) 26 44 (.val (.ref x) :: L) (.ref x :: S) k n H Q := W_s (rfl : (pj lw).1 26 43 = some (.aload_n 0, 1, 0)) rfl rfl rfl
theorem w26_44 {a : Nat} : W (pj lw) 26 44 L (.ref a :: S) k n H Q ↔ (isO H a = true ∧ W (pj lw) 26 47 L (fld H a 4 :: S) k n H Q) := W_getf (rfl : (pj lw).1 26 44 = some (.getfield 7, 3, 4))
theorem w26_47 {x : Int32} {l0 : Slot} : W (pj lw) 26 47 (l0 :: .val (.int x) :: L) S k n H Q ↔ W (pj lw) 26 48 (l0 :: .val (.int x) :: L) (.int x :: S) k n H Q := W_s (rfl : (pj lw).1 26 47 = some (.iload_n 1, 1, 0)) rfl rfl rfl
theorem w26_48 : W (pj lw) 26 48 L S k n H Q ↔ W (pj lw) 26 49 L (.int 2 :: S) k n H Q := W_s (rfl : (pj lw).1 26 48 = some (.iconst 2, 1, 0)) rfl rfl rfl
theorem w26_49 {x i : Int32} {a : Nat} : W (pj lw) 26 49 L (.int x :: .int i :: .ref a :: S) k n H Q ↔ (inAw H a .int i = true ∧ W (pj lw) 26 50 L S k n (wr H a i.toNatClampNeg (.int x)) Q) := W_iastore (rfl : (pj lw).1 26 49 = some (.iastore, 1, 0))
theorem w26_50 {x : Nat} : W (pj lw) 26 50 (.val (.ref x) :: L) S k n H Q ↔ W (pj lw) 26 51 (.val (.ref x) :: L) (.ref x :: S) k n H Q := W_s (rfl : (pj lw).1 26 50 = some (.aload_n 0, 1, 0)) rfl rfl rfl
theorem w26_51 {a : Nat} : W (pj lw) 26 51 L (.ref a :: S) k n H Q ↔ (isO H a = true ∧ W (pj lw) 26 54 L (fld H a 5 :: S) k n H Q) := W_getf (rfl : (pj lw).1 26 51 = some (.getfield 13, 3, 5))
theorem w26_54 {x : Int32} {l0 : Slot} : W (pj lw) 26 54 (l0 :: .val (.int x) :: L) S k n H Q ↔ W (pj lw) 26 55 (l0 :: .val (.int x) :: L) (.int x :: S) k n H Q := W_s (rfl : (pj lw).1 26 54 = some (.iload_n 1, 1, 0)) rfl rfl rfl
theorem w26_55 {x : Nat} : W (pj lw) 26 55 (.val (.ref x) :: L) S k n H Q ↔ W (pj lw) 26 56 (.val (.ref x) :: L) (.ref x :: S) k n H Q := W_s (rfl : (pj lw).1 26 55 = some (.aload_n 0, 1, 0)) rfl rfl rfl
theorem w26_56 {a : Nat} : W (pj lw) 26 56 L (.ref a :: S) k n H Q ↔ (isO H a = true ∧ W (pj lw) 26 59 L (fld H a 2 :: S) k n H Q) := W_getf (rfl : (pj lw).1 26 56 = some (.getfield 64, 3, 2))
theorem w26_59 {x i : Int32} {a : Nat} : W (pj lw) 26 59 L (.int x :: .int i :: .ref a :: S) k n H Q ↔ (inAw H a .int i = true ∧ W (pj lw) 26 60 L S k n (wr H a i.toNatClampNeg (.int x)) Q) := W_iastore (rfl : (pj lw).1 26 59 = some (.iastore, 1, 0))
theorem w26_60 : W (pj lw) 26 60 L S k n H Q ↔ W (pj lw) 26 103 L S k n H Q := W_goto (rfl : (pj lw).1 26 60 = some (.goto 43, 3, 0)) rfl
theorem w26_63 {x : Nat} : W (pj lw) 26 63 (.val (.ref x) :: L) S k n H Q ↔ W (pj lw) 26 64 (.val (.ref x) :: L) (.ref x :: S) k n H Q := W_s (rfl : (pj lw).1 26 63 = some (.aload_n 0, 1, 0)) rfl rfl rfl
theorem w26_64 {a : Nat} : W (pj lw) 26 64 L (.ref a :: S) k n H Q ↔ (isO H a = true ∧ W (pj lw) 26 67 L (fld H a 12 :: S) k n H Q) := W_getf (rfl : (pj lw).1 26 64 = some (.getfield 35, 3, 12))
theorem w26_67 {x : Int32} {l0 : Slot} : W (pj lw) 26 67 (l0 :: .val (.int x) :: L) S k n H Q ↔ W (pj lw) 26 68 (l0 :: .val (.int x) :: L) (.int x :: S) k n H Q := W_s (rfl : (pj lw).1 26 67 = some (.iload_n 1, 1, 0)) rfl rfl rfl
theorem w26_68 {i : Int32} {a : Nat} : W (pj lw) 26 68 L (.int i :: .ref a :: S) k n H Q ↔ (inA H a .int i = true ∧ W (pj lw) 26 69 L (elt H a i :: S) k n H Q) := W_iaload (rfl : (pj lw).1 26 68 = some (.iaload, 1, 0))
theorem w26_69 : W (pj lw) 26 69 L S k n H Q ↔ W (pj lw) 26 70 L (.int 2 :: S) k n H Q := W_s (rfl : (pj lw).1 26 69 = some (.iconst 2, 1, 0)) rfl rfl rfl
theorem w26_70 {x y : Int32} : W (pj lw) 26 70 L (.int y :: .int x :: S) k n H Q ↔ (if x = y then W (pj lw) 26 73 L S k n H Q else W (pj lw) 26 103 L S k n H Q) := W_icmp_ne (rfl : (pj lw).1 26 70 = some (.if_icmp .ne 33, 3, 0)) rfl
theorem w26_73 {x : Nat} : W (pj lw) 26 73 (.val (.ref x) :: L) S k n H Q ↔ W (pj lw) 26 74 (.val (.ref x) :: L) (.ref x :: S) k n H Q := W_s (rfl : (pj lw).1 26 73 = some (.aload_n 0, 1, 0)) rfl rfl rfl
theorem w26_74 {a : Nat} : W (pj lw) 26 74 L (.ref a :: S) k n H Q ↔ (isO H a = true ∧ W (pj lw) 26 77 L (fld H a 5 :: S) k n H Q) := W_getf (rfl : (pj lw).1 26 74 = some (.getfield 13, 3, 5))
theorem w26_77 {x : Int32} {l0 : Slot} : W (pj lw) 26 77 (l0 :: .val (.int x) :: L) S k n H Q ↔ W (pj lw) 26 78 (l0 :: .val (.int x) :: L) (.int x :: S) k n H Q := W_s (rfl : (pj lw).1 26 77 = some (.iload_n 1, 1, 0)) rfl rfl rfl
theorem w26_78 {x : Nat} : W (pj lw) 26 78 (.val (.ref x) :: L) S k n H Q ↔ W (pj lw) 26 79 (.val (.ref x) :: L) (.ref x :: S) k n H Q := W_s (rfl : (pj lw).1 26 78 = some (.aload_n 0, 1, 0)) rfl rfl rfl
theorem w26_79 {a : Nat} : W (pj lw) 26 79 L (.ref a :: S) k n H Q ↔ (isO H a = true ∧ W (pj lw) 26 82 L (fld H a 5 :: S) k n H Q) := W_getf (rfl : (pj lw).1 26 79 = some (.getfield 13, 3, 5))
theorem w26_82 {x : Int32} {l0 : Slot} : W (pj lw) 26 82 (l0 :: .val (.int x) :: L) S k n H Q ↔ W (pj lw) 26 83 (l0 :: .val (.int x) :: L) (.int x :: S) k n H Q := W_s (rfl : (pj lw).1 26 82 = some (.iload_n 1, 1, 0)) rfl rfl rfl
theorem w26_83 {i : Int32} {a : Nat} : W (pj lw) 26 83 L (.int i :: .ref a :: S) k n H Q ↔ (inA H a .int i = true ∧ W (pj lw) 26 84 L (elt H a i :: S) k n H Q) := W_iaload (rfl : (pj lw).1 26 83 = some (.iaload, 1, 0))
theorem w26_84 : W (pj lw) 26 84 L S k n H Q ↔ W (pj lw) 26 85 L (.int 1 :: S) k n H Q := W_s (rfl : (pj lw).1 26 84 = some (.iconst 1, 1, 0)) rfl rfl rfl
theorem w26_85 {x y : Int32} : W (pj lw) 26 85 L (.int y :: .int x :: S) k n H Q ↔ W (pj lw) 26 86 L (.int (x - y) :: S) k n H Q := W_s (rfl : (pj lw).1 26 85 = some (.isub, 1, 0)) rfl rfl rfl
theorem w26_86 {x i : Int32} {a : Nat} : W (pj lw) 26 86 L (.int x :: .int i :: .ref a :: S) k n H Q ↔ (inAw H a .int i = true ∧ W (pj lw) 26 87 L S k n (wr H a i.toNatClampNeg (.int x)) Q) := W_iastore (rfl : (pj lw).1 26 86 = some (.iastore, 1, 0))
theorem w26_87 {x : Nat} : W (pj lw) 26 87 (.val (.ref x) :: L) S k n H Q ↔ W (pj lw) 26 88 (.val (.ref x) :: L) (.ref x :: S) k n H Q := W_s (rfl : (pj lw).1 26 87 = some (.aload_n 0, 1, 0)) rfl rfl rfl
theorem w26_88 {a : Nat} : W (pj lw) 26 88 L (.ref a :: S) k n H Q ↔ (isO H a = true ∧ W (pj lw) 26 91 L (fld H a 5 :: S) k n H Q) := W_getf (rfl : (pj lw).1 26 88 = some (.getfield 13, 3, 5))
theorem w26_91 {x : Int32} {l0 : Slot} : W (pj lw) 26 91 (l0 :: .val (.int x) :: L) S k n H Q ↔ W (pj lw) 26 92 (l0 :: .val (.int x) :: L) (.int x :: S) k n H Q := W_s (rfl : (pj lw).1 26 91 = some (.iload_n 1, 1, 0)) rfl rfl rfl
theorem w26_92 {i : Int32} {a : Nat} : W (pj lw) 26 92 L (.int i :: .ref a :: S) k n H Q ↔ (inA H a .int i = true ∧ W (pj lw) 26 93 L (elt H a i :: S) k n H Q) := W_iaload (rfl : (pj lw).1 26 92 = some (.iaload, 1, 0))
theorem w26_93 {x : Int32} : W (pj lw) 26 93 L (.int x :: S) k n H Q ↔ (if x = 0 then W (pj lw) 26 96 L S k n H Q else W (pj lw) 26 103 L S k n H Q) := W_if_ne (rfl : (pj lw).1 26 93 = some (.ifCond .ne 10, 3, 0)) rfl
theorem w26_96 {x : Nat} : W (pj lw) 26 96 (.val (.ref x) :: L) S k n H Q ↔ W (pj lw) 26 97 (.val (.ref x) :: L) (.ref x :: S) k n H Q := W_s (rfl : (pj lw).1 26 96 = some (.aload_n 0, 1, 0)) rfl rfl rfl
theorem w26_97 {a : Nat} : W (pj lw) 26 97 L (.ref a :: S) k n H Q ↔ (isO H a = true ∧ W (pj lw) 26 100 L (fld H a 4 :: S) k n H Q) := W_getf (rfl : (pj lw).1 26 97 = some (.getfield 7, 3, 4))
theorem w26_100 {x : Int32} {l0 : Slot} : W (pj lw) 26 100 (l0 :: .val (.int x) :: L) S k n H Q ↔ W (pj lw) 26 101 (l0 :: .val (.int x) :: L) (.int x :: S) k n H Q := W_s (rfl : (pj lw).1 26 100 = some (.iload_n 1, 1, 0)) rfl rfl rfl
theorem w26_101 : W (pj lw) 26 101 L S k n H Q ↔ W (pj lw) 26 102 L (.int 3 :: S) k n H Q := W_s (rfl : (pj lw).1 26 101 = some (.iconst 3, 1, 0)) rfl rfl rfl
theorem w26_102 {x i : Int32} {a : Nat} : W (pj lw) 26 102 L (.int x :: .int i :: .ref a :: S) k n H Q ↔ (inAw H a .int i = true ∧ W (pj lw) 26 103 L S k n (wr H a i.toNatClampNeg (.int x)) Q) := W_iastore (rfl : (pj lw).1 26 102 = some (.iastore, 1, 0))
theorem w26_103 {x : Int32} {l0 : Slot} : W (pj lw) 26 103 (l0 :: .val (.int x) :: L) S k n H Q ↔ W (pj lw) 26 106 (l0 :: .val (.int (x + 1)) :: L) S k n H Q := W_s (rfl : (pj lw).1 26 103 = some (.iinc 1 1, 3, 0)) rfl rfl rfl
theorem w26_106 : W (pj lw) 26 106 L S k n H Q ↔ W (pj lw) 26 2 L S k n H Q := W_goto (rfl : (pj lw).1 26 106 = some (.goto (-104), 3, 0)) rfl
theorem w26_109 : W (pj lw) 26 109 L [] k n H Q ↔ Q none H := W_r (rfl : (pj lw).1 26 109 = some (.return_, 1, 0)) rfl
theorem c27 {x0 : Nat} : Cl (pj lw) 27 [.ref x0] H Q ↔ W (pj lw) 27 0 [.val (.ref x0), .unset] [] 0 0 H Q := cl_unf rfl
theorem w27_0 : W (pj lw) 27 0 L S k n H Q ↔ W (pj lw) 27 1 L (.int 0 :: S) k n H Q := W_s (rfl : (pj lw).1 27 0 = some (.iconst 0, 1, 0)) rfl rfl rfl
theorem w27_1 {x : Int32} {l0 : Slot} : W (pj lw) 27 1 (l0 :: .unset :: L) (.int x :: S) k n H Q ↔ W (pj lw) 27 2 (l0 :: .val (.int x) :: L) S k n H Q := W_istn (rfl : (pj lw).1 27 1 = some (.istore_n 1, 1, 0)) rfl rfl
theorem w27_2 {x : Int32} {l0 : Slot} : W (pj lw) 27 2 (l0 :: .val (.int x) :: L) S k n H Q ↔ W (pj lw) 27 3 (l0 :: .val (.int x) :: L) (.int x :: S) k n H Q := W_s (rfl : (pj lw).1 27 2 = some (.iload_n 1, 1, 0)) rfl rfl rfl
theorem w27_3 {x : Nat} : W (pj lw) 27 3 (.val (.ref x) :: L) S k n H Q ↔ W (pj lw) 27 4 (.val (.ref x) :: L) (.ref x :: S) k n H Q := W_s (rfl : (pj lw).1 27 3 = some (.aload_n 0, 1, 0)) rfl rfl rfl
theorem w27_4 {a : Nat} : W (pj lw) 27 4 L (.ref a :: S) k n H Q ↔ (isO H a = true ∧ W (pj lw) 27 7 L (fld H a 0 :: S) k n H Q) := W_getf (rfl : (pj lw).1 27 4 = some (.getfield 57, 3, 0))
theorem w27_7 {x y : Int32} : W (pj lw) 27 7 L (.int y :: .int x :: S) k n H Q ↔ (if x < y then W (pj lw) 27 10 L S k n H Q else W (pj lw) 27 39 L S k n H Q) := W_icmp_ge (rfl : (pj lw).1 27 7 = some (.if_icmp .ge 32, 3, 0)) rfl
theorem w27_10 {x : Nat} : W (pj lw) 27 10 (.val (.ref x) :: L) S k n H Q ↔ W (pj lw) 27 11 (.val (.ref x) :: L) (.ref x :: S) k n H Q := W_s (rfl : (pj lw).1 27 10 = some (.aload_n 0, 1, 0)) rfl rfl rfl
theorem w27_11 {a : Nat} : W (pj lw) 27 11 L (.ref a :: S) k n H Q ↔ (isO H a = true ∧ W (pj lw) 27 14 L (fld H a 6 :: S) k n H Q) := W_getf (rfl : (pj lw).1 27 11 = some (.getfield 16, 3, 6))
theorem w27_14 {x : Int32} {l0 : Slot} : W (pj lw) 27 14 (l0 :: .val (.int x) :: L) S k n H Q ↔ W (pj lw) 27 15 (l0 :: .val (.int x) :: L) (.int x :: S) k n H Q := W_s (rfl : (pj lw).1 27 14 = some (.iload_n 1, 1, 0)) rfl rfl rfl
theorem w27_15 {i : Int32} {a : Nat} : W (pj lw) 27 15 L (.int i :: .ref a :: S) k n H Q ↔ (inA H a .int i = true ∧ W (pj lw) 27 16 L (elt H a i :: S) k n H Q) := W_iaload (rfl : (pj lw).1 27 15 = some (.iaload, 1, 0))
theorem w27_16 {x : Int32} : W (pj lw) 27 16 L (.int x :: S) k n H Q ↔ (if 0 < x then W (pj lw) 27 19 L S k n H Q else W (pj lw) 27 33 L S k n H Q) := W_if_le (rfl : (pj lw).1 27 16 = some (.ifCond .le 17, 3, 0)) rfl
theorem w27_19 {x : Nat} : W (pj lw) 27 19 (.val (.ref x) :: L) S k n H Q ↔ W (pj lw) 27 20 (.val (.ref x) :: L) (.ref x :: S) k n H Q := W_s (rfl : (pj lw).1 27 19 = some (.aload_n 0, 1, 0)) rfl rfl rfl
theorem w27_20 {a : Nat} : W (pj lw) 27 20 L (.ref a :: S) k n H Q ↔ (isO H a = true ∧ W (pj lw) 27 23 L (fld H a 6 :: S) k n H Q) := W_getf (rfl : (pj lw).1 27 20 = some (.getfield 16, 3, 6))
theorem w27_23 {x : Int32} {l0 : Slot} : W (pj lw) 27 23 (l0 :: .val (.int x) :: L) S k n H Q ↔ W (pj lw) 27 24 (l0 :: .val (.int x) :: L) (.int x :: S) k n H Q := W_s (rfl : (pj lw).1 27 23 = some (.iload_n 1, 1, 0)) rfl rfl rfl
theorem w27_24 {x : Nat} : W (pj lw) 27 24 (.val (.ref x) :: L) S k n H Q ↔ W (pj lw) 27 25 (.val (.ref x) :: L) (.ref x :: S) k n H Q := W_s (rfl : (pj lw).1 27 24 = some (.aload_n 0, 1, 0)) rfl rfl rfl
theorem w27_25 {a : Nat} : W (pj lw) 27 25 L (.ref a :: S) k n H Q ↔ (isO H a = true ∧ W (pj lw) 27 28 L (fld H a 6 :: S) k n H Q) := W_getf (rfl : (pj lw).1 27 25 = some (.getfield 16, 3, 6))
theorem w27_28 {x : Int32} {l0 : Slot} : W (pj lw) 27 28 (l0 :: .val (.int x) :: L) S k n H Q ↔ W (pj lw) 27 29 (l0 :: .val (.int x) :: L) (.int x :: S) k n H Q := W_s (rfl : (pj lw).1 27 28 = some (.iload_n 1, 1, 0)) rfl rfl rfl
theorem w27_29 {i : Int32} {a : Nat} : W (pj lw) 27 29 L (.int i :: .ref a :: S) k n H Q ↔ (inA H a .int i = true ∧ W (pj lw) 27 30 L (elt H a i :: S) k n H Q) := W_iaload (rfl : (pj lw).1 27 29 = some (.iaload, 1, 0))
theorem w27_30 : W (pj lw) 27 30 L S k n H Q ↔ W (pj lw) 27 31 L (.int 1 :: S) k n H Q := W_s (rfl : (pj lw).1 27 30 = some (.iconst 1, 1, 0)) rfl rfl rfl
theorem w27_31 {x y : Int32} : W (pj lw) 27 31 L (.int y :: .int x :: S) k n H Q ↔ W (pj lw) 27 32 L (.int (x - y) :: S) k n H Q := W_s (rfl : (pj lw).1 27 31 = some (.isub, 1, 0)) rfl rfl rfl
theorem w27_32 {x i : Int32} {a : Nat} : W (pj lw) 27 32 L (.int x :: .int i :: .ref a :: S) k n H Q ↔ (inAw H a .int i = true ∧ W (pj lw) 27 33 L S k n (wr H a i.toNatClampNeg (.int x)) Q) := W_iastore (rfl : (pj lw).1 27 32 = some (.iastore, 1, 0))
theorem w27_33 {x : Int32} {l0 : Slot} : W (pj lw) 27 33 (l0 :: .val (.int x) :: L) S k n H Q ↔ W (pj lw) 27 36 (l0 :: .val (.int (x + 1)) :: L) S k n H Q := W_s (rfl : (pj lw).1 27 33 = some (.iinc 1 1, 3, 0)) rfl rfl rfl
theorem w27_36 : W (pj lw) 27 36 L S k n H Q ↔ W (pj lw) 27 2 L S k n H Q := W_goto (rfl : (pj lw).1 27 36 = some (.goto (-34), 3, 0)) rfl
theorem w27_39 : W (pj lw) 27 39 L [] k n H Q ↔ Q none H := W_r (rfl : (pj lw).1 27 39 = some (.return_, 1, 0)) rfl
theorem c28 {x0 : Nat} : Cl (pj lw) 28 [.ref x0] H Q ↔ W (pj lw) 28 0 [.val (.ref x0), .unset, .unset] [] 0 0 H Q := cl_unf rfl
theorem w28_0 : W (pj lw) 28 0 L S k n H Q ↔ W (pj lw) 28 1 L (.int 0 :: S) k n H Q := W_s (rfl : (pj lw).1 28 0 = some (.iconst 0, 1, 0)) rfl rfl rfl
theorem w28_1 {x : Int32} {l0 : Slot} : W (pj lw) 28 1 (l0 :: .unset :: L) (.int x :: S) k n H Q ↔ W (pj lw) 28 2 (l0 :: .val (.int x) :: L) S k n H Q := W_istn (rfl : (pj lw).1 28 1 = some (.istore_n 1, 1, 0)) rfl rfl
theorem w28_2 : W (pj lw) 28 2 L S k n H Q ↔ W (pj lw) 28 3 L (.int 0 :: S) k n H Q := W_s (rfl : (pj lw).1 28 2 = some (.iconst 0, 1, 0)) rfl rfl rfl
theorem w28_3 {x : Int32} {l0 l1 : Slot} : W (pj lw) 28 3 (l0 :: l1 :: .unset :: L) (.int x :: S) k n H Q ↔ W (pj lw) 28 4 (l0 :: l1 :: .val (.int x) :: L) S k n H Q := W_istn (rfl : (pj lw).1 28 3 = some (.istore_n 2, 1, 0)) rfl rfl
theorem w28_4 {x : Int32} {l0 l1 : Slot} : W (pj lw) 28 4 (l0 :: l1 :: .val (.int x) :: L) S k n H Q ↔ W (pj lw) 28 5 (l0 :: l1 :: .val (.int x) :: L) (.int x :: S) k n H Q := W_s (rfl : (pj lw).1 28 4 = some (.iload_n 2, 1, 0)) rfl rfl rfl
theorem w28_5 {x : Nat} : W (pj lw) 28 5 (.val (.ref x) :: L) S k n H Q ↔ W (pj lw) 28 6 (.val (.ref x) :: L) (.ref x :: S) k n H Q := W_s (rfl : (pj lw).1 28 5 = some (.aload_n 0, 1, 0)) rfl rfl rfl
theorem w28_6 {a : Nat} : W (pj lw) 28 6 L (.ref a :: S) k n H Q ↔ (isO H a = true ∧ W (pj lw) 28 9 L (fld H a 0 :: S) k n H Q) := W_getf (rfl : (pj lw).1 28 6 = some (.getfield 57, 3, 0))
theorem w28_9 {x y : Int32} : W (pj lw) 28 9 L (.int y :: .int x :: S) k n H Q ↔ (if x < y then W (pj lw) 28 12 L S k n H Q else W (pj lw) 28 45 L S k n H Q) := W_icmp_ge (rfl : (pj lw).1 28 9 = some (.if_icmp .ge 36, 3, 0)) rfl
theorem w28_12 {x : Int32} {l0 : Slot} : W (pj lw) 28 12 (l0 :: .val (.int x) :: L) S k n H Q ↔ W (pj lw) 28 13 (l0 :: .val (.int x) :: L) (.int x :: S) k n H Q := W_s (rfl : (pj lw).1 28 12 = some (.iload_n 1, 1, 0)) rfl rfl rfl
theorem w28_13 {x : Nat} : W (pj lw) 28 13 (.val (.ref x) :: L) S k n H Q ↔ W (pj lw) 28 14 (.val (.ref x) :: L) (.ref x :: S) k n H Q := W_s (rfl : (pj lw).1 28 13 = some (.aload_n 0, 1, 0)) rfl rfl rfl
theorem w28_14 {a : Nat} : W (pj lw) 28 14 L (.ref a :: S) k n H Q ↔ (isO H a = true ∧ W (pj lw) 28 17 L (fld H a 19 :: S) k n H Q) := W_getf (rfl : (pj lw).1 28 14 = some (.getfield 73, 3, 19))
theorem w28_17 {x y : Int32} : W (pj lw) 28 17 L (.int y :: .int x :: S) k n H Q ↔ (if x < y then W (pj lw) 28 20 L S k n H Q else W (pj lw) 28 45 L S k n H Q) := W_icmp_ge (rfl : (pj lw).1 28 17 = some (.if_icmp .ge 28, 3, 0)) rfl
theorem w28_20 {x : Nat} : W (pj lw) 28 20 (.val (.ref x) :: L) S k n H Q ↔ W (pj lw) 28 21 (.val (.ref x) :: L) (.ref x :: S) k n H Q := W_s (rfl : (pj lw).1 28 20 = some (.aload_n 0, 1, 0)) rfl rfl rfl
theorem w28_21 {a : Nat} : W (pj lw) 28 21 L (.ref a :: S) k n H Q ↔ (isO H a = true ∧ W (pj lw) 28 24 L (fld H a 8 :: S) k n H Q) := W_getf (rfl : (pj lw).1 28 21 = some (.getfield 23, 3, 8))
theorem w28_24 {x : Int32} {l0 l1 : Slot} : W (pj lw) 28 24 (l0 :: l1 :: .val (.int x) :: L) S k n H Q ↔ W (pj lw) 28 25 (l0 :: l1 :: .val (.int x) :: L) (.int x :: S) k n H Q := W_s (rfl : (pj lw).1 28 24 = some (.iload_n 2, 1, 0)) rfl rfl rfl
theorem w28_25 {i : Int32} {a : Nat} : W (pj lw) 28 25 L (.int i :: .ref a :: S) k n H Q ↔ ((inA H a .byte i = true ∨ inA H a .boolean i = true) ∧ W (pj lw) 28 26 L (elt H a i :: S) k n H Q) := W_baload (rfl : (pj lw).1 28 25 = some (.baload, 1, 0))
theorem w28_26 {x : Int32} : W (pj lw) 28 26 L (.int x :: S) k n H Q ↔ (if x = 0 then W (pj lw) 28 39 L S k n H Q else W (pj lw) 28 29 L S k n H Q) := W_if_eq (rfl : (pj lw).1 28 26 = some (.ifCond .eq 13, 3, 0)) rfl
theorem w28_29 {x : Nat} : W (pj lw) 28 29 (.val (.ref x) :: L) S k n H Q ↔ W (pj lw) 28 30 (.val (.ref x) :: L) (.ref x :: S) k n H Q := W_s (rfl : (pj lw).1 28 29 = some (.aload_n 0, 1, 0)) rfl rfl rfl
theorem w28_30 {a : Nat} : W (pj lw) 28 30 L (.ref a :: S) k n H Q ↔ (isO H a = true ∧ W (pj lw) 28 33 L (fld H a 14 :: S) k n H Q) := W_getf (rfl : (pj lw).1 28 30 = some (.getfield 41, 3, 14))
theorem w28_33 {x : Int32} {l0 : Slot} : W (pj lw) 28 33 (l0 :: .val (.int x) :: L) S k n H Q ↔ W (pj lw) 28 34 (l0 :: .val (.int x) :: L) (.int x :: S) k n H Q := W_s (rfl : (pj lw).1 28 33 = some (.iload_n 1, 1, 0)) rfl rfl rfl
theorem w28_34 {x : Int32} {l0 l1 : Slot} : W (pj lw) 28 34 (l0 :: l1 :: .val (.int x) :: L) S k n H Q ↔ W (pj lw) 28 35 (l0 :: l1 :: .val (.int x) :: L) (.int x :: S) k n H Q := W_s (rfl : (pj lw).1 28 34 = some (.iload_n 2, 1, 0)) rfl rfl rfl
theorem w28_35 {x i : Int32} {a : Nat} : W (pj lw) 28 35 L (.int x :: .int i :: .ref a :: S) k n H Q ↔ (inAw H a .int i = true ∧ W (pj lw) 28 36 L S k n (wr H a i.toNatClampNeg (.int x)) Q) := W_iastore (rfl : (pj lw).1 28 35 = some (.iastore, 1, 0))
theorem w28_36 {x : Int32} {l0 : Slot} : W (pj lw) 28 36 (l0 :: .val (.int x) :: L) S k n H Q ↔ W (pj lw) 28 39 (l0 :: .val (.int (x + 1)) :: L) S k n H Q := W_s (rfl : (pj lw).1 28 36 = some (.iinc 1 1, 3, 0)) rfl rfl rfl
theorem w28_39 {x : Int32} {l0 l1 : Slot} : W (pj lw) 28 39 (l0 :: l1 :: .val (.int x) :: L) S k n H Q ↔ W (pj lw) 28 42 (l0 :: l1 :: .val (.int (x + 1)) :: L) S k n H Q := W_s (rfl : (pj lw).1 28 39 = some (.iinc 2 1, 3, 0)) rfl rfl rfl
theorem w28_42 : W (pj lw) 28 42 L S k n H Q ↔ W (pj lw) 28 4 L S k n H Q := W_goto (rfl : (pj lw).1 28 42 = some (.goto (-38), 3, 0)) rfl
theorem w28_45 : W (pj lw) 28 45 L S k n H Q ↔ W (pj lw) 28 46 L (.int 0 :: S) k n H Q := W_s (rfl : (pj lw).1 28 45 = some (.iconst 0, 1, 0)) rfl rfl rfl
theorem w28_46i {y : Int32} {x : Int32} {l0 l1 : Slot} : W (pj lw) 28 46 (l0 :: l1 :: .val (.int y) :: L) (.int x :: S) k n H Q ↔ W (pj lw) 28 47 (l0 :: l1 :: .val (.int x) :: L) S k n H Q := W_istn (rfl : (pj lw).1 28 46 = some (.istore_n 2, 1, 0)) rfl rfl
theorem w28_47 {x : Int32} {l0 l1 : Slot} : W (pj lw) 28 47 (l0 :: l1 :: .val (.int x) :: L) S k n H Q ↔ W (pj lw) 28 48 (l0 :: l1 :: .val (.int x) :: L) (.int x :: S) k n H Q := W_s (rfl : (pj lw).1 28 47 = some (.iload_n 2, 1, 0)) rfl rfl rfl
theorem w28_48 {x : Int32} {l0 : Slot} : W (pj lw) 28 48 (l0 :: .val (.int x) :: L) S k n H Q ↔ W (pj lw) 28 49 (l0 :: .val (.int x) :: L) (.int x :: S) k n H Q := W_s (rfl : (pj lw).1 28 48 = some (.iload_n 1, 1, 0)) rfl rfl rfl
theorem w28_49 {x y : Int32} : W (pj lw) 28 49 L (.int y :: .int x :: S) k n H Q ↔ (if x < y then W (pj lw) 28 52 L S k n H Q else W (pj lw) 28 68 L S k n H Q) := W_icmp_ge (rfl : (pj lw).1 28 49 = some (.if_icmp .ge 19, 3, 0)) rfl
theorem w28_52 {x : Nat} : W (pj lw) 28 52 (.val (.ref x) :: L) S k n H Q ↔ W (pj lw) 28 53 (.val (.ref x) :: L) (.ref x :: S) k n H Q := W_s (rfl : (pj lw).1 28 52 = some (.aload_n 0, 1, 0)) rfl rfl rfl
theorem w28_53 {x : Nat} : W (pj lw) 28 53 (.val (.ref x) :: L) S k n H Q ↔ W (pj lw) 28 54 (.val (.ref x) :: L) (.ref x :: S) k n H Q := W_s (rfl : (pj lw).1 28 53 = some (.aload_n 0, 1, 0)) rfl rfl rfl
theorem w28_54 {a : Nat} : W (pj lw) 28 54 L (.ref a :: S) k n H Q ↔ (isO H a = true ∧ W (pj lw) 28 57 L (fld H a 14 :: S) k n H Q) := W_getf (rfl : (pj lw).1 28 54 = some (.getfield 41, 3, 14))
theorem w28_57 {x : Int32} {l0 l1 : Slot} : W (pj lw) 28 57 (l0 :: l1 :: .val (.int x) :: L) S k n H Q ↔ W (pj lw) 28 58 (l0 :: l1 :: .val (.int x) :: L) (.int x :: S) k n H Q := W_s (rfl : (pj lw).1 28 57 = some (.iload_n 2, 1, 0)) rfl rfl rfl
theorem w28_58 {i : Int32} {a : Nat} : W (pj lw) 28 58 L (.int i :: .ref a :: S) k n H Q ↔ (inA H a .int i = true ∧ W (pj lw) 28 59 L (elt H a i :: S) k n H Q) := W_iaload (rfl : (pj lw).1 28 58 = some (.iaload, 1, 0))
theorem w28_59 {a : Nat} {x0 : Int32} : W (pj lw) 28 59 L (.int x0 :: .ref a :: S) k n H Q ↔ ((isO H a = true ∧ cs S + (2 + 11) + 15 ≤ 28) ∧ Cl (pj lw) 29 [.ref a, .int x0] H (fun v H => W (pj lw) 28 62 L (v.toList ++ S) k n H Q)) := W_inst (as := [.int x0]) (rfl : (pj lw).1 28 59 = some (.invokevirtual 141, 3, 29)) rfl rfl rfl (Nat.le_of_ble_eq_true rfl) (Nat.le_of_ble_eq_true rfl) ⟨rfl, rfl⟩
theorem w28_62 {x : Int32} {l0 l1 : Slot} : W (pj lw) 28 62 (l0 :: l1 :: .val (.int x) :: L) S k n H Q ↔ W (pj lw) 28 65 (l0 :: l1 :: .val (.int (x + 1)) :: L) S k n H Q := W_s (rfl : (pj lw).1 28 62 = some (.iinc 2 1, 3, 0)) rfl rfl rfl
theorem w28_65 : W (pj lw) 28 65 L S k n H Q ↔ W (pj lw) 28 47 L S k n H Q := W_goto (rfl : (pj lw).1 28 65 = some (.goto (-18), 3, 0)) rfl
theorem w28_68 : W (pj lw) 28 68 L [] k n H Q ↔ Q none H := W_r (rfl : (pj lw).1 28 68 = some (.return_, 1, 0)) rfl
theorem c29 {x0 : Nat} {x1 : Int32} : Cl (pj lw) 29 [.ref x0, .int x1] H Q ↔ W (pj lw) 29 0 [.val (.ref x0), .val (.int x1)] [] 0 0 H Q := cl_unf rfl
theorem w29_0 {x : Nat} : W (pj lw) 29 0 (.val (.ref x) :: L) S k n H Q ↔ W (pj lw) 29 1 (.val (.ref x) :: L) (.ref x :: S) k n H Q := W_s (rfl : (pj lw).1 29 0 = some (.aload_n 0, 1, 0)) rfl rfl rfl
theorem w29_1 {a : Nat} : W (pj lw) 29 1 L (.ref a :: S) k n H Q ↔ (isO H a = true ∧ W (pj lw) 29 4 L (fld H a 8 :: S) k n H Q) := W_getf (rfl : (pj lw).1 29 1 = some (.getfield 23, 3, 8))
theorem w29_4 {x : Int32} {l0 : Slot} : W (pj lw) 29 4 (l0 :: .val (.int x) :: L) S k n H Q ↔ W (pj lw) 29 5 (l0 :: .val (.int x) :: L) (.int x :: S) k n H Q := W_s (rfl : (pj lw).1 29 4 = some (.iload_n 1, 1, 0)) rfl rfl rfl
theorem w29_5 : W (pj lw) 29 5 L S k n H Q ↔ W (pj lw) 29 6 L (.int 0 :: S) k n H Q := W_s (rfl : (pj lw).1 29 5 = some (.iconst 0, 1, 0)) rfl rfl rfl
theorem w29_6 {x i : Int32} {a : Nat} : W (pj lw) 29 6 L (.int x :: .int i :: .ref a :: S) k n H Q ↔ (((inAw H a .byte i = true ∧ okv .byte (.int x) = true) ∨ (inAw H a .boolean i = true ∧ okv .boolean (.int x) = true)) ∧ W (pj lw) 29 7 L S k n (wr H a i.toNatClampNeg (.int x)) Q) := W_bastore (rfl : (pj lw).1 29 6 = some (.bastore, 1, 0))
theorem w29_7 {x : Nat} : W (pj lw) 29 7 (.val (.ref x) :: L) S k n H Q ↔ W (pj lw) 29 8 (.val (.ref x) :: L) (.ref x :: S) k n H Q := W_s (rfl : (pj lw).1 29 7 = some (.aload_n 0, 1, 0)) rfl rfl rfl
theorem w29_8 {x : Nat} : W (pj lw) 29 8 (.val (.ref x) :: L) S k n H Q ↔ W (pj lw) 29 9 (.val (.ref x) :: L) (.ref x :: S) k n H Q := W_s (rfl : (pj lw).1 29 8 = some (.aload_n 0, 1, 0)) rfl rfl rfl
theorem w29_9 {a : Nat} : W (pj lw) 29 9 L (.ref a :: S) k n H Q ↔ (isO H a = true ∧ W (pj lw) 29 12 L (fld H a 20 :: S) k n H Q) := W_getf (rfl : (pj lw).1 29 9 = some (.getfield 76, 3, 20))
theorem w29_12 : W (pj lw) 29 12 L S k n H Q ↔ W (pj lw) 29 13 L (.int 1 :: S) k n H Q := W_s (rfl : (pj lw).1 29 12 = some (.iconst 1, 1, 0)) rfl rfl rfl
theorem w29_13 {x y : Int32} : W (pj lw) 29 13 L (.int y :: .int x :: S) k n H Q ↔ W (pj lw) 29 14 L (.int (x + y) :: S) k n H Q := W_s (rfl : (pj lw).1 29 13 = some (.iadd, 1, 0)) rfl rfl rfl
theorem w29_14 {a : Nat} {v : Value} : W (pj lw) 29 14 L (v :: .ref a :: S) k n H Q ↔ ((isOw H a = true ∧ okv (.int) v = true) ∧ W (pj lw) 29 17 L S k n (wr H a 20 v) Q) := W_putf (rfl : (pj lw).1 29 14 = some (.putfield 76, 3, 20))
theorem w29_17 {x : Nat} : W (pj lw) 29 17 (.val (.ref x) :: L) S k n H Q ↔ W (pj lw) 29 18 (.val (.ref x) :: L) (.ref x :: S) k n H Q := W_s (rfl : (pj lw).1 29 17 = some (.aload_n 0, 1, 0)) rfl rfl rfl
theorem w29_18 {a : Nat} : W (pj lw) 29 18 L (.ref a :: S) k n H Q ↔ (isO H a = true ∧ W (pj lw) 29 21 L (fld H a 4 :: S) k n H Q) := W_getf (rfl : (pj lw).1 29 18 = some (.getfield 7, 3, 4))
theorem w29_21 {x : Int32} {l0 : Slot} : W (pj lw) 29 21 (l0 :: .val (.int x) :: L) S k n H Q ↔ W (pj lw) 29 22 (l0 :: .val (.int x) :: L) (.int x :: S) k n H Q := W_s (rfl : (pj lw).1 29 21 = some (.iload_n 1, 1, 0)) rfl rfl rfl
theorem w29_22 {i : Int32} {a : Nat} : W (pj lw) 29 22 L (.int i :: .ref a :: S) k n H Q ↔ (inA H a .int i = true ∧ W (pj lw) 29 23 L (elt H a i :: S) k n H Q) := W_iaload (rfl : (pj lw).1 29 22 = some (.iaload, 1, 0))
theorem w29_23 : W (pj lw) 29 23 L S k n H Q ↔ W (pj lw) 29 24 L (.int 2 :: S) k n H Q := W_s (rfl : (pj lw).1 29 23 = some (.iconst 2, 1, 0)) rfl rfl rfl
theorem w29_24 {x y : Int32} : W (pj lw) 29 24 L (.int y :: .int x :: S) k n H Q ↔ (if x = y then W (pj lw) 29 28 L S k n H Q else W (pj lw) 29 27 L S k n H Q) := W_icmp_eq (rfl : (pj lw).1 29 24 = some (.if_icmp .eq 4, 3, 0)) rfl
theorem w29_27 : W (pj lw) 29 27 L [] k n H Q ↔ Q none H := W_r (rfl : (pj lw).1 29 27 = some (.return_, 1, 0)) rfl
theorem w29_28 {x : Nat} : W (pj lw) 29 28 (.val (.ref x) :: L) S k n H Q ↔ W (pj lw) 29 29 (.val (.ref x) :: L) (.ref x :: S) k n H Q := W_s (rfl : (pj lw).1 29 28 = some (.aload_n 0, 1, 0)) rfl rfl rfl
theorem w29_29 {x : Nat} : W (pj lw) 29 29 (.val (.ref x) :: L) S k n H Q ↔ W (pj lw) 29 30 (.val (.ref x) :: L) (.ref x :: S) k n H Q := W_s (rfl : (pj lw).1 29 29 = some (.aload_n 0, 1, 0)) rfl rfl rfl
theorem w29_30 {a : Nat} : W (pj lw) 29 30 L (.ref a :: S) k n H Q ↔ (isO H a = true ∧ W (pj lw) 29 33 L (fld H a 21 :: S) k n H Q) := W_getf (rfl : (pj lw).1 29 30 = some (.getfield 79, 3, 21))
theorem w29_33 : W (pj lw) 29 33 L S k n H Q ↔ W (pj lw) 29 34 L (.int 1 :: S) k n H Q := W_s (rfl : (pj lw).1 29 33 = some (.iconst 1, 1, 0)) rfl rfl rfl
theorem w29_34 {x y : Int32} : W (pj lw) 29 34 L (.int y :: .int x :: S) k n H Q ↔ W (pj lw) 29 35 L (.int (x + y) :: S) k n H Q := W_s (rfl : (pj lw).1 29 34 = some (.iadd, 1, 0)) rfl rfl rfl
theorem w29_35 {a : Nat} {v : Value} : W (pj lw) 29 35 L (v :: .ref a :: S) k n H Q ↔ ((isOw H a = true ∧ okv (.int) v = true) ∧ W (pj lw) 29 38 L S k n (wr H a 21 v) Q) := W_putf (rfl : (pj lw).1 29 35 = some (.putfield 79, 3, 21))
theorem w29_38 {x : Nat} : W (pj lw) 29 38 (.val (.ref x) :: L) S k n H Q ↔ W (pj lw) 29 39 (.val (.ref x) :: L) (.ref x :: S) k n H Q := W_s (rfl : (pj lw).1 29 38 = some (.aload_n 0, 1, 0)) rfl rfl rfl
theorem w29_39 {a : Nat} : W (pj lw) 29 39 L (.ref a :: S) k n H Q ↔ (isO H a = true ∧ W (pj lw) 29 42 L (fld H a 7 :: S) k n H Q) := W_getf (rfl : (pj lw).1 29 39 = some (.getfield 19, 3, 7))
theorem w29_42 {x : Int32} {l0 : Slot} : W (pj lw) 29 42 (l0 :: .val (.int x) :: L) S k n H Q ↔ W (pj lw) 29 43 (l0 :: .val (.int x) :: L) (.int x :: S) k n H Q := W_s (rfl : (pj lw).1 29 42 = some (.iload_n 1, 1, 0)) rfl rfl rfl
theorem w29_43 : W (pj lw) 29 43 L S k n H Q ↔ W (pj lw) 29 44 L (.int 1 :: S) k n H Q := W_s (rfl : (pj lw).1 29 43 = some (.iconst 1, 1, 0)) rfl rfl rfl
theorem w29_44 {x i : Int32} {a : Nat} : W (pj lw) 29 44 L (.int x :: .int i :: .ref a :: S) k n H Q ↔ (((inAw H a .byte i = true ∧ okv .byte (.int x) = true) ∨ (inAw H a .boolean i = true ∧ okv .boolean (.int x) = true)) ∧ W (pj lw) 29 45 L S k n (wr H a i.toNatClampNeg (.int x)) Q) := W_bastore (rfl : (pj lw).1 29 44 = some (.bastore, 1, 0))
theorem w29_45 {x : Nat} : W (pj lw) 29 45 (.val (.ref x) :: L) S k n H Q ↔ W (pj lw) 29 46 (.val (.ref x) :: L) (.ref x :: S) k n H Q := W_s (rfl : (pj lw).1 29 45 = some (.aload_n 0, 1, 0)) rfl rfl rfl
theorem w29_46 {a : Nat} : W (pj lw) 29 46 L (.ref a :: S) k n H Q ↔ (isO H a = true ∧ W (pj lw) 29 49 L (fld H a 6 :: S) k n H Q) := W_getf (rfl : (pj lw).1 29 46 = some (.getfield 16, 3, 6))
theorem w29_49 {x : Int32} {l0 : Slot} : W (pj lw) 29 49 (l0 :: .val (.int x) :: L) S k n H Q ↔ W (pj lw) 29 50 (l0 :: .val (.int x) :: L) (.int x :: S) k n H Q := W_s (rfl : (pj lw).1 29 49 = some (.iload_n 1, 1, 0)) rfl rfl rfl
theorem w29_50 {x : Nat} : W (pj lw) 29 50 (.val (.ref x) :: L) S k n H Q ↔ W (pj lw) 29 51 (.val (.ref x) :: L) (.ref x :: S) k n H Q := W_s (rfl : (pj lw).1 29 50 = some (.aload_n 0, 1, 0)) rfl rfl rfl
theorem w29_51 {a : Nat} : W (pj lw) 29 51 L (.ref a :: S) k n H Q ↔ (isO H a = true ∧ W (pj lw) 29 54 L (fld H a 3 :: S) k n H Q) := W_getf (rfl : (pj lw).1 29 51 = some (.getfield 67, 3, 3))
theorem w29_54 {x i : Int32} {a : Nat} : W (pj lw) 29 54 L (.int x :: .int i :: .ref a :: S) k n H Q ↔ (inAw H a .int i = true ∧ W (pj lw) 29 55 L S k n (wr H a i.toNatClampNeg (.int x)) Q) := W_iastore (rfl : (pj lw).1 29 54 = some (.iastore, 1, 0))
theorem w29_55 {x : Nat} : W (pj lw) 29 55 (.val (.ref x) :: L) S k n H Q ↔ W (pj lw) 29 56 (.val (.ref x) :: L) (.ref x :: S) k n H Q := W_s (rfl : (pj lw).1 29 55 = some (.aload_n 0, 1, 0)) rfl rfl rfl
theorem w29_56 {x : Int32} {l0 : Slot} : W (pj lw) 29 56 (l0 :: .val (.int x) :: L) S k n H Q ↔ W (pj lw) 29 57 (l0 :: .val (.int x) :: L) (.int x :: S) k n H Q := W_s (rfl : (pj lw).1 29 56 = some (.iload_n 1, 1, 0)) rfl rfl rfl
theorem w29_57 {a : Nat} {x0 : Int32} : W (pj lw) 29 57 L (.int x0 :: .ref a :: S) k n H Q ↔ ((isO H a = true ∧ cs S + (4 + 11) + 0 ≤ 15) ∧ Cl (pj lw) 30 [.ref a, .int x0] H (fun v H => W (pj lw) 29 60 L (v.toList ++ S) k n H Q)) := W_inst (as := [.int x0]) (rfl : (pj lw).1 29 57 = some (.invokevirtual 145, 3, 30)) rfl rfl rfl (Nat.le_of_ble_eq_true rfl) (Nat.le_of_ble_eq_true rfl) ⟨rfl, rfl⟩
theorem w29_60 : W (pj lw) 29 60 L [] k n H Q ↔ Q none H := W_r (rfl : (pj lw).1 29 60 = some (.return_, 1, 0)) rfl
theorem c30 {x0 : Nat} {x1 : Int32} : Cl (pj lw) 30 [.ref x0, .int x1] H Q ↔ W (pj lw) 30 0 [.val (.ref x0), .val (.int x1), .unset, .unset] [] 0 0 H Q := cl_unf rfl
theorem w30_0 : W (pj lw) 30 0 L S k n H Q ↔ W (pj lw) 30 1 L (.int 0 :: S) k n H Q := W_s (rfl : (pj lw).1 30 0 = some (.iconst 0, 1, 0)) rfl rfl rfl
theorem w30_1 {x : Int32} {l0 l1 : Slot} : W (pj lw) 30 1 (l0 :: l1 :: .unset :: L) (.int x :: S) k n H Q ↔ W (pj lw) 30 2 (l0 :: l1 :: .val (.int x) :: L) S k n H Q := W_istn (rfl : (pj lw).1 30 1 = some (.istore_n 2, 1, 0)) rfl rfl
theorem w30_2 {x : Int32} {l0 l1 : Slot} : W (pj lw) 30 2 (l0 :: l1 :: .val (.int x) :: L) S k n H Q ↔ W (pj lw) 30 3 (l0 :: l1 :: .val (.int x) :: L) (.int x :: S) k n H Q := W_s (rfl : (pj lw).1 30 2 = some (.iload_n 2, 1, 0)) rfl rfl rfl
theorem w30_3 {x : Nat} : W (pj lw) 30 3 (.val (.ref x) :: L) S k n H Q ↔ W (pj lw) 30 4 (.val (.ref x) :: L) (.ref x :: S) k n H Q := W_s (rfl : (pj lw).1 30 3 = some (.aload_n 0, 1, 0)) rfl rfl rfl
theorem w30_4 {a : Nat} : W (pj lw) 30 4 L (.ref a :: S) k n H Q ↔ (isO H a = true ∧ W (pj lw) 30 7 L (fld H a 18 :: S) k n H Q) := W_getf (rfl : (pj lw).1 30 4 = some (.getfield 70, 3, 18))
theorem w30_7 {x y : Int32} : W (pj lw) 30 7 L (.int y :: .int x :: S) k n H Q ↔ (if x < y then W (pj lw) 30 10 L S k n H Q else W (pj lw) 30 95 L S k n H Q) := W_icmp_ge (rfl : (pj lw).1 30 7 = some (.if_icmp .ge 88, 3, 0)) rfl
theorem w30_10 : W (pj lw) 30 10 L S k n H Q ↔ W (pj lw) 30 11 L (.int (-1) :: S) k n H Q := W_s (rfl : (pj lw).1 30 10 = some (.iconst (-1), 1, 0)) rfl rfl rfl
theorem w30_11i {y : Int32} {x : Int32} {l0 l1 l2 : Slot} : W (pj lw) 30 11 (l0 :: l1 :: l2 :: .val (.int y) :: L) (.int x :: S) k n H Q ↔ W (pj lw) 30 12 (l0 :: l1 :: l2 :: .val (.int x) :: L) S k n H Q := W_istn (rfl : (pj lw).1 30 11 = some (.istore_n 3, 1, 0)) rfl rfl
theorem w30_11 {x : Int32} {l0 l1 l2 : Slot} : W (pj lw) 30 11 (l0 :: l1 :: l2 :: .unset :: L) (.int x :: S) k n H Q ↔ W (pj lw) 30 12 (l0 :: l1 :: l2 :: .val (.int x) :: L) S k n H Q := W_istn (rfl : (pj lw).1 30 11 = some (.istore_n 3, 1, 0)) rfl rfl
theorem w30_12 {x : Nat} : W (pj lw) 30 12 (.val (.ref x) :: L) S k n H Q ↔ W (pj lw) 30 13 (.val (.ref x) :: L) (.ref x :: S) k n H Q := W_s (rfl : (pj lw).1 30 12 = some (.aload_n 0, 1, 0)) rfl rfl rfl
theorem w30_13 {a : Nat} : W (pj lw) 30 13 L (.ref a :: S) k n H Q ↔ (isO H a = true ∧ W (pj lw) 30 16 L (fld H a 15 :: S) k n H Q) := W_getf (rfl : (pj lw).1 30 13 = some (.getfield 44, 3, 15))
theorem w30_16 {x : Int32} {l0 l1 : Slot} : W (pj lw) 30 16 (l0 :: l1 :: .val (.int x) :: L) S k n H Q ↔ W (pj lw) 30 17 (l0 :: l1 :: .val (.int x) :: L) (.int x :: S) k n H Q := W_s (rfl : (pj lw).1 30 16 = some (.iload_n 2, 1, 0)) rfl rfl rfl
theorem w30_17 {i : Int32} {a : Nat} : W (pj lw) 30 17 L (.int i :: .ref a :: S) k n H Q ↔ (inA H a .int i = true ∧ W (pj lw) 30 18 L (elt H a i :: S) k n H Q) := W_iaload (rfl : (pj lw).1 30 17 = some (.iaload, 1, 0))
theorem w30_18 {x : Int32} {l0 : Slot} : W (pj lw) 30 18 (l0 :: .val (.int x) :: L) S k n H Q ↔ W (pj lw) 30 19 (l0 :: .val (.int x) :: L) (.int x :: S) k n H Q := W_s (rfl : (pj lw).1 30 18 = some (.iload_n 1, 1, 0)) rfl rfl rfl
theorem w30_19 {x y : Int32} : W (pj lw) 30 19 L (.int y :: .int x :: S) k n H Q ↔ (if x = y then W (pj lw) 30 22 L S k n H Q else W (pj lw) 30 32 L S k n H Q) := W_icmp_ne (rfl : (pj lw).1 30 19 = some (.if_icmp .ne 13, 3, 0)) rfl
theorem w30_22 {x : Nat} : W (pj lw) 30 22 (.val (.ref x) :: L) S k n H Q ↔ W (pj lw) 30 23 (.val (.ref x) :: L) (.ref x :: S) k n H Q := W_s (rfl : (pj lw).1 30 22 = some (.aload_n 0, 1, 0)) rfl rfl rfl
theorem w30_23 {a : Nat} : W (pj lw) 30 23 L (.ref a :: S) k n H Q ↔ (isO H a = true ∧ W (pj lw) 30 26 L (fld H a 16 :: S) k n H Q) := W_getf (rfl : (pj lw).1 30 23 = some (.getfield 47, 3, 16))
theorem w30_26 {x : Int32} {l0 l1 : Slot} : W (pj lw) 30 26 (l0 :: l1 :: .val (.int x) :: L) S k n H Q ↔ W (pj lw) 30 27 (l0 :: l1 :: .val (.int x) :: L) (.int x :: S) k n H Q := W_s (rfl : (pj lw).1 30 26 = some (.iload_n 2, 1, 0)) rfl rfl rfl
theorem w30_27 {i : Int32} {a : Nat} : W (pj lw) 30 27 L (.int i :: .ref a :: S) k n H Q ↔ (inA H a .int i = true ∧ W (pj lw) 30 28 L (elt H a i :: S) k n H Q) := W_iaload (rfl : (pj lw).1 30 27 = some (.iaload, 1, 0))
theorem w30_28i {y : Int32} {x : Int32} {l0 l1 l2 : Slot} : W (pj lw) 30 28 (l0 :: l1 :: l2 :: .val (.int y) :: L) (.int x :: S) k n H Q ↔ W (pj lw) 30 29 (l0 :: l1 :: l2 :: .val (.int x) :: L) S k n H Q := W_istn (rfl : (pj lw).1 30 28 = some (.istore_n 3, 1, 0)) rfl rfl
theorem w30_29 : W (pj lw) 30 29 L S k n H Q ↔ W (pj lw) 30 49 L S k n H Q := W_goto (rfl : (pj lw).1 30 29 = some (.goto 20, 3, 0)) rfl
theorem w30_32 {x : Nat} : W (pj lw) 30 32 (.val (.ref x) :: L) S k n H Q ↔ W (pj lw) 30 33 (.val (.ref x) :: L) (.ref x :: S) k n H Q := W_s (rfl : (pj lw).1 30 32 = some (.aload_n 0, 1, 0)) rfl rfl rfl
theorem w30_33 {a : Nat} : W (pj lw) 30 33 L (.ref a :: S) k n H Q ↔ (isO H a = true ∧ W (pj lw) 30 36 L (fld H a 16 :: S) k n H Q) := W_getf (rfl : (pj lw).1 30 33 = some (.getfield 47, 3, 16))
theorem w30_36 {x : Int32} {l0 l1 : Slot} : W (pj lw) 30 36 (l0 :: l1 :: .val (.int x) :: L) S k n H Q ↔ W (pj lw) 30 37 (l0 :: l1 :: .val (.int x) :: L) (.int x :: S) k n H Q := W_s (rfl : (pj lw).1 30 36 = some (.iload_n 2, 1, 0)) rfl rfl rfl
theorem w30_37 {i : Int32} {a : Nat} : W (pj lw) 30 37 L (.int i :: .ref a :: S) k n H Q ↔ (inA H a .int i = true ∧ W (pj lw) 30 38 L (elt H a i :: S) k n H Q) := W_iaload (rfl : (pj lw).1 30 37 = some (.iaload, 1, 0))
theorem w30_38 {x : Int32} {l0 : Slot} : W (pj lw) 30 38 (l0 :: .val (.int x) :: L) S k n H Q ↔ W (pj lw) 30 39 (l0 :: .val (.int x) :: L) (.int x :: S) k n H Q := W_s (rfl : (pj lw).1 30 38 = some (.iload_n 1, 1, 0)) rfl rfl rfl
theorem w30_39 {x y : Int32} : W (pj lw) 30 39 L (.int y :: .int x :: S) k n H Q ↔ (if x = y then W (pj lw) 30 42 L S k n H Q else W (pj lw) 30 49 L S k n H Q) := W_icmp_ne (rfl : (pj lw).1 30 39 = some (.if_icmp .ne 10, 3, 0)) rfl
theorem w30_42 {x : Nat} : W (pj lw) 30 42 (.val (.ref x) :: L) S k n H Q ↔ W (pj lw) 30 43 (.val (.ref x) :: L) (.ref x :: S) k n H Q := W_s (rfl : (pj lw).1 30 42 = some (.aload_n 0, 1, 0)) rfl rfl rfl
theorem w30_43 {a : Nat} : W (pj lw) 30 43 L (.ref a :: S) k n H Q ↔ (isO H a = true ∧ W (pj lw) 30 46 L (fld H a 15 :: S) k n H Q) := W_getf (rfl : (pj lw).1 30 43 = some (.getfield 44, 3, 15))
theorem w30_46 {x : Int32} {l0 l1 : Slot} : W (pj lw) 30 46 (l0 :: l1 :: .val (.int x) :: L) S k n H Q ↔ W (pj lw) 30 47 (l0 :: l1 :: .val (.int x) :: L) (.int x :: S) k n H Q := W_s (rfl : (pj lw).1 30 46 = some (.iload_n 2, 1, 0)) rfl rfl rfl
theorem w30_47 {i : Int32} {a : Nat} : W (pj lw) 30 47 L (.int i :: .ref a :: S) k n H Q ↔ (inA H a .int i = true ∧ W (pj lw) 30 48 L (elt H a i :: S) k n H Q) := W_iaload (rfl : (pj lw).1 30 47 = some (.iaload, 1, 0))
theorem w30_48i {y : Int32} {x : Int32} {l0 l1 l2 : Slot} : W (pj lw) 30 48 (l0 :: l1 :: l2 :: .val (.int y) :: L) (.int x :: S) k n H Q ↔ W (pj lw) 30 49 (l0 :: l1 :: l2 :: .val (.int x) :: L) S k n H Q := W_istn (rfl : (pj lw).1 30 48 = some (.istore_n 3, 1, 0)) rfl rfl
theorem w30_49 {x : Int32} {l0 l1 l2 : Slot} : W (pj lw) 30 49 (l0 :: l1 :: l2 :: .val (.int x) :: L) S k n H Q ↔ W (pj lw) 30 50 (l0 :: l1 :: l2 :: .val (.int x) :: L) (.int x :: S) k n H Q := W_s (rfl : (pj lw).1 30 49 = some (.iload_n 3, 1, 0)) rfl rfl rfl
theorem w30_50 {x : Int32} : W (pj lw) 30 50 L (.int x :: S) k n H Q ↔ (if x < 0 then W (pj lw) 30 89 L S k n H Q else W (pj lw) 30 53 L S k n H Q) := W_if_lt (rfl : (pj lw).1 30 50 = some (.ifCond .lt 39, 3, 0)) rfl
theorem w30_53 {x : Nat} : W (pj lw) 30 53 (.val (.ref x) :: L) S k n H Q ↔ W (pj lw) 30 54 (.val (.ref x) :: L) (.ref x :: S) k n H Q := W_s (rfl : (pj lw).1 30 53 = some (.aload_n 0, 1, 0)) rfl rfl rfl
theorem w30_54 {a : Nat} : W (pj lw) 30 54 L (.ref a :: S) k n H Q ↔ (isO H a = true ∧ W (pj lw) 30 57 L (fld H a 4 :: S) k n H Q) := W_getf (rfl : (pj lw).1 30 54 = some (.getfield 7, 3, 4))
theorem w30_57 {x : Int32} {l0 l1 l2 : Slot} : W (pj lw) 30 57 (l0 :: l1 :: l2 :: .val (.int x) :: L) S k n H Q ↔ W (pj lw) 30 58 (l0 :: l1 :: l2 :: .val (.int x) :: L) (.int x :: S) k n H Q := W_s (rfl : (pj lw).1 30 57 = some (.iload_n 3, 1, 0)) rfl rfl rfl
theorem w30_58 {i : Int32} {a : Nat} : W (pj lw) 30 58 L (.int i :: .ref a :: S) k n H Q ↔ (inA H a .int i = true ∧ W (pj lw) 30 59 L (elt H a i :: S) k n H Q) := W_iaload (rfl : (pj lw).1 30 58 = some (.iaload, 1, 0))
theorem w30_59 : W (pj lw) 30 59 L S k n H Q ↔ W (pj lw) 30 60 L (.int 3 :: S) k n H Q := W_s (rfl : (pj lw).1 30 59 = some (.iconst 3, 1, 0)) rfl rfl rfl
theorem w30_60 {x y : Int32} : W (pj lw) 30 60 L (.int y :: .int x :: S) k n H Q ↔ (if x = y then W (pj lw) 30 89 L S k n H Q else W (pj lw) 30 63 L S k n H Q) := W_icmp_eq (rfl : (pj lw).1 30 60 = some (.if_icmp .eq 29, 3, 0)) rfl
theorem w30_63 {x : Nat} : W (pj lw) 30 63 (.val (.ref x) :: L) S k n H Q ↔ W (pj lw) 30 64 (.val (.ref x) :: L) (.ref x :: S) k n H Q := W_s (rfl : (pj lw).1 30 63 = some (.aload_n 0, 1, 0)) rfl rfl rfl
theorem w30_64 {a : Nat} : W (pj lw) 30 64 L (.ref a :: S) k n H Q ↔ (isO H a = true ∧ W (pj lw) 30 67 L (fld H a 7 :: S) k n H Q) := W_getf (rfl : (pj lw).1 30 64 = some (.getfield 19, 3, 7))
theorem w30_67 {x : Int32} {l0 l1 l2 : Slot} : W (pj lw) 30 67 (l0 :: l1 :: l2 :: .val (.int x) :: L) S k n H Q ↔ W (pj lw) 30 68 (l0 :: l1 :: l2 :: .val (.int x) :: L) (.int x :: S) k n H Q := W_s (rfl : (pj lw).1 30 67 = some (.iload_n 3, 1, 0)) rfl rfl rfl
theorem w30_68 {i : Int32} {a : Nat} : W (pj lw) 30 68 L (.int i :: .ref a :: S) k n H Q ↔ ((inA H a .byte i = true ∨ inA H a .boolean i = true) ∧ W (pj lw) 30 69 L (elt H a i :: S) k n H Q) := W_baload (rfl : (pj lw).1 30 68 = some (.baload, 1, 0))
theorem w30_69 {x : Int32} : W (pj lw) 30 69 L (.int x :: S) k n H Q ↔ (if x = 0 then W (pj lw) 30 72 L S k n H Q else W (pj lw) 30 89 L S k n H Q) := W_if_ne (rfl : (pj lw).1 30 69 = some (.ifCond .ne 20, 3, 0)) rfl
theorem w30_72 {x : Nat} : W (pj lw) 30 72 (.val (.ref x) :: L) S k n H Q ↔ W (pj lw) 30 73 (.val (.ref x) :: L) (.ref x :: S) k n H Q := W_s (rfl : (pj lw).1 30 72 = some (.aload_n 0, 1, 0)) rfl rfl rfl
theorem w30_73 {a : Nat} : W (pj lw) 30 73 L (.ref a :: S) k n H Q ↔ (isO H a = true ∧ W (pj lw) 30 76 L (fld H a 6 :: S) k n H Q) := W_getf (rfl : (pj lw).1 30 73 = some (.getfield 16, 3, 6))
theorem w30_76 {x : Int32} {l0 l1 l2 : Slot} : W (pj lw) 30 76 (l0 :: l1 :: l2 :: .val (.int x) :: L) S k n H Q ↔ W (pj lw) 30 77 (l0 :: l1 :: l2 :: .val (.int x) :: L) (.int x :: S) k n H Q := W_s (rfl : (pj lw).1 30 76 = some (.iload_n 3, 1, 0)) rfl rfl rfl
theorem w30_77 {x : Nat} : W (pj lw) 30 77 (.val (.ref x) :: L) S k n H Q ↔ W (pj lw) 30 78 (.val (.ref x) :: L) (.ref x :: S) k n H Q := W_s (rfl : (pj lw).1 30 77 = some (.aload_n 0, 1, 0)) rfl rfl rfl
theorem w30_78 {a : Nat} : W (pj lw) 30 78 L (.ref a :: S) k n H Q ↔ (isO H a = true ∧ W (pj lw) 30 81 L (fld H a 3 :: S) k n H Q) := W_getf (rfl : (pj lw).1 30 78 = some (.getfield 67, 3, 3))
theorem w30_81 {x i : Int32} {a : Nat} : W (pj lw) 30 81 L (.int x :: .int i :: .ref a :: S) k n H Q ↔ (inAw H a .int i = true ∧ W (pj lw) 30 82 L S k n (wr H a i.toNatClampNeg (.int x)) Q) := W_iastore (rfl : (pj lw).1 30 81 = some (.iastore, 1, 0))
theorem w30_82 {x : Nat} : W (pj lw) 30 82 (.val (.ref x) :: L) S k n H Q ↔ W (pj lw) 30 83 (.val (.ref x) :: L) (.ref x :: S) k n H Q := W_s (rfl : (pj lw).1 30 82 = some (.aload_n 0, 1, 0)) rfl rfl rfl
theorem w30_83 {a : Nat} : W (pj lw) 30 83 L (.ref a :: S) k n H Q ↔ (isO H a = true ∧ W (pj lw) 30 86 L (fld H a 8 :: S) k n H Q) := W_getf (rfl : (pj lw).1 30 83 = some (.getfield 23, 3, 8))
theorem w30_86 {x : Int32} {l0 l1 l2 : Slot} : W (pj lw) 30 86 (l0 :: l1 :: l2 :: .val (.int x) :: L) S k n H Q ↔ W (pj lw) 30 87 (l0 :: l1 :: l2 :: .val (.int x) :: L) (.int x :: S) k n H Q := W_s (rfl : (pj lw).1 30 86 = some (.iload_n 3, 1, 0)) rfl rfl rfl
theorem w30_87 : W (pj lw) 30 87 L S k n H Q ↔ W (pj lw) 30 88 L (.int 1 :: S) k n H Q := W_s (rfl : (pj lw).1 30 87 = some (.iconst 1, 1, 0)) rfl rfl rfl
theorem w30_88 {x i : Int32} {a : Nat} : W (pj lw) 30 88 L (.int x :: .int i :: .ref a :: S) k n H Q ↔ (((inAw H a .byte i = true ∧ okv .byte (.int x) = true) ∨ (inAw H a .boolean i = true ∧ okv .boolean (.int x) = true)) ∧ W (pj lw) 30 89 L S k n (wr H a i.toNatClampNeg (.int x)) Q) := W_bastore (rfl : (pj lw).1 30 88 = some (.bastore, 1, 0))
theorem w30_89 {x : Int32} {l0 l1 : Slot} : W (pj lw) 30 89 (l0 :: l1 :: .val (.int x) :: L) S k n H Q ↔ W (pj lw) 30 92 (l0 :: l1 :: .val (.int (x + 1)) :: L) S k n H Q := W_s (rfl : (pj lw).1 30 89 = some (.iinc 2 1, 3, 0)) rfl rfl rfl
theorem w30_92 : W (pj lw) 30 92 L S k n H Q ↔ W (pj lw) 30 2 L S k n H Q := W_goto (rfl : (pj lw).1 30 92 = some (.goto (-90), 3, 0)) rfl
theorem w30_95 : W (pj lw) 30 95 L [] k n H Q ↔ Q none H := W_r (rfl : (pj lw).1 30 95 = some (.return_, 1, 0)) rfl
theorem c31 {x0 : Nat} {x1 : Int32} : Cl (pj lw) 31 [.ref x0, .int x1] H Q ↔ W (pj lw) 31 0 [.val (.ref x0), .val (.int x1), .unset, .unset] [] 0 0 H Q := cl_unf rfl
theorem w31_0 : W (pj lw) 31 0 L S k n H Q ↔ W (pj lw) 31 1 L (.int 0 :: S) k n H Q := W_s (rfl : (pj lw).1 31 0 = some (.iconst 0, 1, 0)) rfl rfl rfl
theorem w31_1 {x : Int32} {l0 l1 : Slot} : W (pj lw) 31 1 (l0 :: l1 :: .unset :: L) (.int x :: S) k n H Q ↔ W (pj lw) 31 2 (l0 :: l1 :: .val (.int x) :: L) S k n H Q := W_istn (rfl : (pj lw).1 31 1 = some (.istore_n 2, 1, 0)) rfl rfl
theorem w31_2 : W (pj lw) 31 2 L S k n H Q ↔ W (pj lw) 31 3 L (.int 0 :: S) k n H Q := W_s (rfl : (pj lw).1 31 2 = some (.iconst 0, 1, 0)) rfl rfl rfl
theorem w31_3 {x : Int32} {l0 l1 l2 : Slot} : W (pj lw) 31 3 (l0 :: l1 :: l2 :: .unset :: L) (.int x :: S) k n H Q ↔ W (pj lw) 31 4 (l0 :: l1 :: l2 :: .val (.int x) :: L) S k n H Q := W_istn (rfl : (pj lw).1 31 3 = some (.istore_n 3, 1, 0)) rfl rfl
theorem w31_4 {x : Int32} {l0 l1 l2 : Slot} : W (pj lw) 31 4 (l0 :: l1 :: l2 :: .val (.int x) :: L) S k n H Q ↔ W (pj lw) 31 5 (l0 :: l1 :: l2 :: .val (.int x) :: L) (.int x :: S) k n H Q := W_s (rfl : (pj lw).1 31 4 = some (.iload_n 3, 1, 0)) rfl rfl rfl
theorem w31_5 {x : Nat} : W (pj lw) 31 5 (.val (.ref x) :: L) S k n H Q ↔ W (pj lw) 31 6 (.val (.ref x) :: L) (.ref x :: S) k n H Q := W_s (rfl : (pj lw).1 31 5 = some (.aload_n 0, 1, 0)) rfl rfl rfl
theorem w31_6 {a : Nat} : W (pj lw) 31 6 L (.ref a :: S) k n H Q ↔ (isO H a = true ∧ W (pj lw) 31 9 L (fld H a 0 :: S) k n H Q) := W_getf (rfl : (pj lw).1 31 6 = some (.getfield 57, 3, 0))
theorem w31_9 {x y : Int32} : W (pj lw) 31 9 L (.int y :: .int x :: S) k n H Q ↔ (if x < y then W (pj lw) 31 12 L S k n H Q else W (pj lw) 31 31 L S k n H Q) := W_icmp_ge (rfl : (pj lw).1 31 9 = some (.if_icmp .ge 22, 3, 0)) rfl
theorem w31_12 {x : Nat} : W (pj lw) 31 12 (.val (.ref x) :: L) S k n H Q ↔ W (pj lw) 31 13 (.val (.ref x) :: L) (.ref x :: S) k n H Q := W_s (rfl : (pj lw).1 31 12 = some (.aload_n 0, 1, 0)) rfl rfl rfl
theorem w31_13 {a : Nat} : W (pj lw) 31 13 L (.ref a :: S) k n H Q ↔ (isO H a = true ∧ W (pj lw) 31 16 L (fld H a 4 :: S) k n H Q) := W_getf (rfl : (pj lw).1 31 13 = some (.getfield 7, 3, 4))
theorem w31_16 {x : Int32} {l0 l1 l2 : Slot} : W (pj lw) 31 16 (l0 :: l1 :: l2 :: .val (.int x) :: L) S k n H Q ↔ W (pj lw) 31 17 (l0 :: l1 :: l2 :: .val (.int x) :: L) (.int x :: S) k n H Q := W_s (rfl : (pj lw).1 31 16 = some (.iload_n 3, 1, 0)) rfl rfl rfl
theorem w31_17 {i : Int32} {a : Nat} : W (pj lw) 31 17 L (.int i :: .ref a :: S) k n H Q ↔ (inA H a .int i = true ∧ W (pj lw) 31 18 L (elt H a i :: S) k n H Q) := W_iaload (rfl : (pj lw).1 31 17 = some (.iaload, 1, 0))
theorem w31_18 {x : Int32} {l0 : Slot} : W (pj lw) 31 18 (l0 :: .val (.int x) :: L) S k n H Q ↔ W (pj lw) 31 19 (l0 :: .val (.int x) :: L) (.int x :: S) k n H Q := W_s (rfl : (pj lw).1 31 18 = some (.iload_n 1, 1, 0)) rfl rfl rfl
theorem w31_19 {x y : Int32} : W (pj lw) 31 19 L (.int y :: .int x :: S) k n H Q ↔ (if x = y then W (pj lw) 31 22 L S k n H Q else W (pj lw) 31 25 L S k n H Q) := W_icmp_ne (rfl : (pj lw).1 31 19 = some (.if_icmp .ne 6, 3, 0)) rfl
theorem w31_22 {x : Int32} {l0 l1 : Slot} : W (pj lw) 31 22 (l0 :: l1 :: .val (.int x) :: L) S k n H Q ↔ W (pj lw) 31 25 (l0 :: l1 :: .val (.int (x + 1)) :: L) S k n H Q := W_s (rfl : (pj lw).1 31 22 = some (.iinc 2 1, 3, 0)) rfl rfl rfl
theorem w31_25 {x : Int32} {l0 l1 l2 : Slot} : W (pj lw) 31 25 (l0 :: l1 :: l2 :: .val (.int x) :: L) S k n H Q ↔ W (pj lw) 31 28 (l0 :: l1 :: l2 :: .val (.int (x + 1)) :: L) S k n H Q := W_s (rfl : (pj lw).1 31 25 = some (.iinc 3 1, 3, 0)) rfl rfl rfl
theorem w31_28 : W (pj lw) 31 28 L S k n H Q ↔ W (pj lw) 31 4 L S k n H Q := W_goto (rfl : (pj lw).1 31 28 = some (.goto (-24), 3, 0)) rfl
theorem w31_31 {x : Int32} {l0 l1 : Slot} : W (pj lw) 31 31 (l0 :: l1 :: .val (.int x) :: L) S k n H Q ↔ W (pj lw) 31 32 (l0 :: l1 :: .val (.int x) :: L) (.int x :: S) k n H Q := W_s (rfl : (pj lw).1 31 31 = some (.iload_n 2, 1, 0)) rfl rfl rfl
theorem w31_32 {x : Int32} : W (pj lw) 31 32 L (.int x :: S) k n H Q ↔ Q (some (.int x)) H := W_r (rfl : (pj lw).1 31 32 = some (.ireturn, 1, 0)) rfl
theorem c34 {x0 : Nat} : Cl (pj lw) 34 [.ref x0] H Q ↔ W (pj lw) 34 0 [.val (.ref x0), .unset, .unset] [] 0 0 H Q := cl_unf rfl
theorem w34_0 : W (pj lw) 34 0 L S k n H Q ↔ W (pj lw) 34 1 L (.int 0 :: S) k n H Q := W_s (rfl : (pj lw).1 34 0 = some (.iconst 0, 1, 0)) rfl rfl rfl
theorem w34_1 {x : Int32} {l0 : Slot} : W (pj lw) 34 1 (l0 :: .unset :: L) (.int x :: S) k n H Q ↔ W (pj lw) 34 2 (l0 :: .val (.int x) :: L) S k n H Q := W_istn (rfl : (pj lw).1 34 1 = some (.istore_n 1, 1, 0)) rfl rfl
theorem w34_2 : W (pj lw) 34 2 L S k n H Q ↔ W (pj lw) 34 3 L (.int 0 :: S) k n H Q := W_s (rfl : (pj lw).1 34 2 = some (.iconst 0, 1, 0)) rfl rfl rfl
theorem w34_3 {x : Int32} {l0 l1 : Slot} : W (pj lw) 34 3 (l0 :: l1 :: .unset :: L) (.int x :: S) k n H Q ↔ W (pj lw) 34 4 (l0 :: l1 :: .val (.int x) :: L) S k n H Q := W_istn (rfl : (pj lw).1 34 3 = some (.istore_n 2, 1, 0)) rfl rfl
theorem w34_4 {x : Int32} {l0 l1 : Slot} : W (pj lw) 34 4 (l0 :: l1 :: .val (.int x) :: L) S k n H Q ↔ W (pj lw) 34 5 (l0 :: l1 :: .val (.int x) :: L) (.int x :: S) k n H Q := W_s (rfl : (pj lw).1 34 4 = some (.iload_n 2, 1, 0)) rfl rfl rfl
theorem w34_5 {x : Nat} : W (pj lw) 34 5 (.val (.ref x) :: L) S k n H Q ↔ W (pj lw) 34 6 (.val (.ref x) :: L) (.ref x :: S) k n H Q := W_s (rfl : (pj lw).1 34 5 = some (.aload_n 0, 1, 0)) rfl rfl rfl
theorem w34_6 {a : Nat} : W (pj lw) 34 6 L (.ref a :: S) k n H Q ↔ (isO H a = true ∧ W (pj lw) 34 9 L (fld H a 0 :: S) k n H Q) := W_getf (rfl : (pj lw).1 34 6 = some (.getfield 57, 3, 0))
theorem w34_9 {x y : Int32} : W (pj lw) 34 9 L (.int y :: .int x :: S) k n H Q ↔ (if x < y then W (pj lw) 34 12 L S k n H Q else W (pj lw) 34 32 L S k n H Q) := W_icmp_ge (rfl : (pj lw).1 34 9 = some (.if_icmp .ge 23, 3, 0)) rfl
theorem w34_12 {x : Nat} : W (pj lw) 34 12 (.val (.ref x) :: L) S k n H Q ↔ W (pj lw) 34 13 (.val (.ref x) :: L) (.ref x :: S) k n H Q := W_s (rfl : (pj lw).1 34 12 = some (.aload_n 0, 1, 0)) rfl rfl rfl
theorem w34_13 {a : Nat} : W (pj lw) 34 13 L (.ref a :: S) k n H Q ↔ (isO H a = true ∧ W (pj lw) 34 16 L (fld H a 9 :: S) k n H Q) := W_getf (rfl : (pj lw).1 34 13 = some (.getfield 26, 3, 9))
theorem w34_16 {x : Int32} {l0 l1 : Slot} : W (pj lw) 34 16 (l0 :: l1 :: .val (.int x) :: L) S k n H Q ↔ W (pj lw) 34 17 (l0 :: l1 :: .val (.int x) :: L) (.int x :: S) k n H Q := W_s (rfl : (pj lw).1 34 16 = some (.iload_n 2, 1, 0)) rfl rfl rfl
theorem w34_17 {i : Int32} {a : Nat} : W (pj lw) 34 17 L (.int i :: .ref a :: S) k n H Q ↔ (inA H a .int i = true ∧ W (pj lw) 34 18 L (elt H a i :: S) k n H Q) := W_iaload (rfl : (pj lw).1 34 17 = some (.iaload, 1, 0))
theorem w34_18 : W (pj lw) 34 18 L S k n H Q ↔ W (pj lw) 34 20 L (.int (-2) :: S) k n H Q := W_s (rfl : (pj lw).1 34 18 = some (.bipush (-2), 2, 0)) rfl rfl rfl
theorem w34_20 {x y : Int32} : W (pj lw) 34 20 L (.int y :: .int x :: S) k n H Q ↔ (if x = y then W (pj lw) 34 26 L S k n H Q else W (pj lw) 34 23 L S k n H Q) := W_icmp_eq (rfl : (pj lw).1 34 20 = some (.if_icmp .eq 6, 3, 0)) rfl
theorem w34_23 {x : Int32} {l0 : Slot} : W (pj lw) 34 23 (l0 :: .val (.int x) :: L) S k n H Q ↔ W (pj lw) 34 26 (l0 :: .val (.int (x + 1)) :: L) S k n H Q := W_s (rfl : (pj lw).1 34 23 = some (.iinc 1 1, 3, 0)) rfl rfl rfl
theorem w34_26 {x : Int32} {l0 l1 : Slot} : W (pj lw) 34 26 (l0 :: l1 :: .val (.int x) :: L) S k n H Q ↔ W (pj lw) 34 29 (l0 :: l1 :: .val (.int (x + 1)) :: L) S k n H Q := W_s (rfl : (pj lw).1 34 26 = some (.iinc 2 1, 3, 0)) rfl rfl rfl
theorem w34_29 : W (pj lw) 34 29 L S k n H Q ↔ W (pj lw) 34 4 L S k n H Q := W_goto (rfl : (pj lw).1 34 29 = some (.goto (-25), 3, 0)) rfl
theorem w34_32 {x : Int32} {l0 : Slot} : W (pj lw) 34 32 (l0 :: .val (.int x) :: L) S k n H Q ↔ W (pj lw) 34 33 (l0 :: .val (.int x) :: L) (.int x :: S) k n H Q := W_s (rfl : (pj lw).1 34 32 = some (.iload_n 1, 1, 0)) rfl rfl rfl
theorem w34_33 {x : Int32} : W (pj lw) 34 33 L (.int x :: S) k n H Q ↔ Q (some (.int x)) H := W_r (rfl : (pj lw).1 34 33 = some (.ireturn, 1, 0)) rfl
end Pc
section A
variable {lw : LW} {H : AH} {p j : Nat} {s : St} {Q : Option Value → AH → Prop} {a b c d : Int32} {h : Nat → Cel} {k n : Nat}
theorem t17 : Cl (pj lw) 17 [.ref p, .int a, .int b, .int c] H Q ↔ Q (some (.int (cl b c a))) H := by
  rw [c17]
  by_cases h1 : a < b <;> by_cases h2 : c < a <;> simp +decide only [w17_0, w17_1, w17_2, w17_5, w17_6, w17_7, w17_8, w17_9, w17_12, w17_13, w17_14, w17_15, ↓reduceIte, h1, h2, cl]
def F1 (s : St) (lo : Nat) : St := fA (fA (fA (fA (fA (fA (fA (fA s 1 lo 128 0) 2 lo 128 0) 3 lo 128 0) 4 lo 128 0) 5 lo 128 0) 6 lo 128 (-2)) 7 lo 128 (-1)) 8 lo 128 (-1)
theorem F1_nil {lo : Nat} (h : 128 ≤ lo) : F1 s lo = s := by simp only [F1, fA_nil h]
theorem F1_step {lo : Nat} (h : lo < 128) : F1 (uA (uA (uA (uA (uA (uA (uA (uA s 1 lo 0) 2 lo 0) 3 lo 0) 4 lo 0) 5 lo 0) 6 lo (-2)) 7 lo (-1)) 8 lo (-1)) (lo + 1) = F1 s lo := by
  refine St_ext (fun k => by simp only [F1, sI_fA, sI_uA]) (fun k => by simp only [F1, sJ_fA, sJ_uA]) (fun t' i => ?_) (fun t' i => by simp only [F1, sB_fA, sB_uA])
  simp only [F1, sA_fA, sA_uA]
  by_cases hi : i = lo
  · subst hi
    have h1 : ¬ (i + 1 ≤ i) := by omega
    simp only [h1, h, Nat.le_refl, and_true, and_false, true_and, false_and, if_false]
  · have h1 : (lo + 1 ≤ i) = (lo ≤ i) := propext ⟨fun _ => by omega, fun _ => by omega⟩
    simp only [hi, h1, and_false, if_false]
theorem l1 (m : Nat) : ∀ (i : Int32) (s : St), i.toInt = 128 - m → m ≤ 128 → (W (pj lw) 1 183 [.val (.ref p), .val (.int a), .val (.int b), .val (.int c), .val (.int d), .val (.int i)] [] k n (ob H p s) Q ↔ W (pj lw) 1 262 [.val (.ref p), .val (.int a), .val (.int b), .val (.int c), .val (.int d), .val (.int 128)] [] k n (ob H p (F1 s i.toNatClampNeg)) Q) := by
  induction m with
  | zero =>
    intro i s hi _
    have h1 : ¬ i < 128 := by rw [lt32]; simp only [Int32.reduceToInt]; omega
    have h0 : i = 128 := by rw [eq32]; simp only [Int32.reduceToInt]; omega
    rw [w1_183]; simp +decide only [w1_185, w1_188, ↓reduceIte, h1]
    rw [F1_nil (by rw [cln]; omega), h0]
  | succ m ih =>
    intro i s hi hm
    have h1 : i < 128 := by rw [lt32]; simp only [Int32.reduceToInt]; omega
    have h2 : (i + 1).toInt = i.toInt + 1 := ia (by simp only [Int32.reduceToInt]; omega) (by simp only [Int32.reduceToInt]; omega)
    have h3 : 0 ≤ i.toInt ∧ i.toInt < 128 := by omega
    rw [w1_183]; simp +decide only [w1_185, w1_188, w1_191, w1_192, w1_195, w1_197, w1_198, w1_199, w1_200, w1_203, w1_205, w1_206, w1_207, w1_208, w1_211, w1_213, w1_214, w1_215, w1_216, w1_219, w1_221, w1_222, w1_223, w1_224, w1_227, w1_229, w1_230, w1_231, w1_232, w1_235, w1_237, w1_239, w1_240, w1_241, w1_244, w1_246, w1_247, w1_248, w1_249, w1_252, w1_254, w1_255, w1_256, w1_259, isO_put, true_and, and_true, or_true, ↓reduceIte, g4, g5, g6, g7, g8, g9, g10, g11, aw1, as1, aw2, as2, aw3, as3, aw4, awn4, as4, aw5, awn5, as5, aw6, as6, aw7, as7, aw8, as8, h1, h3]
    rw [ih (i + 1) _ (by omega) (by omega)]
    have h4 : (i + 1).toNatClampNeg = i.toNatClampNeg + 1 := by rw [cln, cln]; omega
    rw [h4, F1_step (by rw [cln]; omega)]
def ini0 (a b c d : Int32) : St := uI (uI (uI (uI (uI (uI (F1 (uI (uI (uI (uI z0 0 (cl 2 128 a)) 1 (cl 1 8 b)) 2 (cl 1 8 c)) 3 (cl 1 16 d)) 0) 18 0) 19 0) 20 0) 21 0) 22 0) 23 1
set_option maxRecDepth 100000 in
theorem t1 : Cl (pj lw) 1 [.ref p, .int a, .int b, .int c, .int d] (put lay 0 (p + 1, h) p z0) Q ↔ Q none (ob (p + 15, h) p (ini0 a b c d)) := by
  rw [c1]; simp +decide only [w1_0, w1_1, w1_4, w1_5, w1_8, w1_10, w1_13, w1_14, w1_17, w1_19, w1_22, w1_23, w1_26, w1_28, w1_31, w1_32, w1_35, w1_37, w1_40, w1_41, w1_44, w1_46, w1_49, w1_50, w1_53, w1_55, w1_58, w1_59, w1_62, w1_64, w1_67, w1_68, w1_71, w1_73, w1_76, w1_77, w1_80, w1_82, w1_85, w1_86, w1_89, w1_91, w1_94, w1_95, w1_98, w1_100, w1_103, w1_104, w1_107, w1_109, w1_112, w1_113, w1_116, w1_118, w1_121, w1_122, w1_125, w1_127, w1_130, w1_131, w1_132, w1_133, w1_134, w1_137, w1_140, w1_143, w1_144, w1_145, w1_146, w1_147, w1_149, w1_152, w1_155, w1_156, w1_157, w1_158, w1_159, w1_161, w1_164, w1_167, w1_168, w1_169, w1_171, w1_172, w1_174, w1_177, w1_180, w1_181, zr_z0, isO_put, isOw_put, put_fst, okv_int, okv_ref, cs_nil, cs_ref, Option.toList_some, List.cons_append, List.nil_append, true_and, and_true, Nat.reduceAdd, Int32.reduceAdd, Int64.reduceAdd, Nat.add_zero, Nat.zero_add, Nat.le_refl, s0, s1, s2, s3, mk1, io1, mk2, io2, mk3, io3, mk4, io4, mk5, io5, mk6, io6, mk7, io7, mk8, io8, mk9, io9, mk10, io10, mk11, io11, mk12, io12, mk13, io13, mk14, io14, t17]
  rw [l1 128 0 _ (by decide) (by decide)]
  simp +decide only [w1_262, w1_263, w1_264, w1_267, w1_268, w1_269, w1_272, w1_273, w1_274, w1_277, w1_278, w1_279, w1_282, w1_283, w1_284, w1_287, w1_288, w1_289, w1_292, isOw_put, true_and, and_true, Int32.reduceToNatClampNeg, s18, s19, s20, s21, s22, s23, ini0]
theorem l34 (m : Nat) : ∀ (j c : Int32), j.toInt = (sI s 0).toInt - m → 0 ≤ j.toInt → (sI s 0).toInt ≤ 128 → (W (pj lw) 34 4 [.val (.ref p), .val (.int c), .val (.int j)] [] k n (ob H p s) Q ↔ Q (some (.int (c + Int32.ofNat (cnt (fun i => !decide (sA s 6 i = -2)) j.toNatClampNeg m)))) (ob H p s)) := by
  induction m with
  | zero =>
    intro j c hj h0 hn
    have h1 : ¬ j < sI s 0 := by rw [lt32]; omega
    rw [w34_4]; simp +decide only [w34_5, w34_6, w34_9, w34_32, w34_33, isO_put, true_and, ↓reduceIte, g0, h1]
    rw [cnt, add_ofNat_zero]
  | succ m ih =>
    intro j c hj h0 hn
    have h1 : j < sI s 0 := by rw [lt32]; omega
    have h2 : (j + 1).toInt = j.toInt + 1 := ia (by simp only [Int32.reduceToInt]; omega) (by simp only [Int32.reduceToInt]; omega)
    have h3 : 0 ≤ j.toInt ∧ j.toInt < 128 := by omega
    have h4 : (j + 1).toNatClampNeg = j.toNatClampNeg + 1 := by rw [cln, cln]; omega
    rw [w34_4]
    by_cases h5 : sA s 6 j.toNatClampNeg = -2
    · simp +decide only [w34_5, w34_6, w34_9, w34_12, w34_13, w34_16, w34_17, w34_18, w34_20, w34_26, w34_29, isO_put, true_and, and_true, ↓reduceIte, g0, g9, ai6, ae6, h1, h3, h5]
      rw [ih (j + 1) _ (by omega) (by omega) hn, h4, cnt]
      simp [h5]
    · simp +decide only [w34_5, w34_6, w34_9, w34_12, w34_13, w34_16, w34_17, w34_18, w34_20, w34_23, w34_26, w34_29, isO_put, true_and, and_true, ↓reduceIte, g0, g9, ai6, ae6, h1, h3, h5]
      rw [ih (j + 1) _ (by omega) (by omega) hn, h4, cnt, ofNat_one_add]
      simp [h5]
theorem t34 (h0 : 0 ≤ (sI s 0).toInt ∧ (sI s 0).toInt ≤ 128) : Cl (pj lw) 34 [.ref p] (ob H p s) Q ↔ Q (some (.int (Int32.ofNat (cnt (fun i => !decide (sA s 6 i = -2)) 0 (sI s 0).toInt.toNat)))) (ob H p s) := by
  rw [c34]; simp +decide only [w34_0, w34_1, w34_2, w34_3]
  rw [l34 (sI s 0).toInt.toNat 0 0 (by simp only [Int32.reduceToInt]; omega) (by decide) h0.2, Int32.zero_add]; rfl
end A

section B
variable {lw : LW} {H : AH} {p j : Nat} {s : St} {Q : Option Value → AH → Prop} {a b c d : Int32} {h : Nat → Cel} {k n : Nat}
def nxg (g : Int32) : Int32 := g * 1103515245 + 12345
def drw (g : Int32) : Int32 := (Jvm.Free.XT.ushr (nxg g) 8 &&& 16777215) % 1000
theorem t19 : Cl (pj lw) 19 [.ref p] (ob H p s) Q ↔ Q (some (.int (drw (sI s 23)))) (ob H p (uI s 23 (nxg (sI s 23)))) := by
  rw [c19]; simp +decide only [w19_0, w19_1, w19_2, w19_5, w19_7, w19_8, w19_11, w19_12, w19_15, w19_16, w19_19, w19_21, w19_22, w19_24, w19_25, w19_28, w19_29, isO_put, isOw_put, okv_int, sI_uI, true_and, and_true, ↓reduceIte, g23, s23, drw, nxg]
def can (s : St) (x y : Nat) : Bool := decide (sA s 9 x = 2 ∧ sA s 10 x = 0 ∧ sA s 9 y = 0 ∧ sA s 10 y = 0)
theorem t23 (h1 : 0 ≤ a.toInt ∧ a.toInt < 128) (h2 : 0 ≤ b.toInt ∧ b.toInt < 128) : Cl (pj lw) 23 [.ref p, .int a, .int b] (ob H p s) Q ↔ (if can s a.toNatClampNeg b.toNatClampNeg = true then Q (some (.int 1)) (ob H p s) else Q (some (.int 0)) (ob H p s)) := by
  rw [c23]
  by_cases e1 : sA s 9 a.toNatClampNeg = 2 <;> by_cases e2 : sA s 10 a.toNatClampNeg = 0 <;> by_cases e3 : sA s 9 b.toNatClampNeg = 0 <;> by_cases e4 : sA s 10 b.toNatClampNeg = 0 <;>
  simp +decide only [w23_0, w23_1, w23_4, w23_5, w23_6, w23_7, w23_10, w23_11, w23_14, w23_15, w23_16, w23_19, w23_20, w23_23, w23_24, w23_25, w23_28, w23_29, w23_32, w23_33, w23_34, w23_37, w23_38, w23_41, w23_42, isO_put, true_and, and_true, and_false, or_true, ↓reduceIte, g12, g13, ai9, ae9, ai10, ain10, ae10, ain10, h1, h2, e1, e2, e3, e4, can, decide_true, decide_false, and_self]
def tryI (s : St) (a b c : Int32) : St :=
  if drw (sI s 23) < c ∧ sA s 1 b.toNatClampNeg = 0 then
    uA (uA (uA (uA (uA (uI s 23 (nxg (sI s 23))) 1 b.toNatClampNeg 1) 2 b.toNatClampNeg (sI s 1)) 6 b.toNatClampNeg a) 7 b.toNatClampNeg (sI s 22 + 1)) 8 b.toNatClampNeg (sA s 8 a.toNatClampNeg + 1)
  else uI s 23 (nxg (sI s 23))
theorem t25 (h1 : 0 ≤ a.toInt ∧ a.toInt < 128) (h2 : 0 ≤ b.toInt ∧ b.toInt < 128) : Cl (pj lw) 25 [.ref p, .int a, .int b, .int c] (ob H p s) Q ↔ Q none (ob H p (tryI s a b c)) := by
  rw [c25]
  by_cases e1 : drw (sI s 23) < c <;> by_cases e2 : sA s 1 b.toNatClampNeg = 0 <;>
  simp +decide only [w25_0, w25_1, w25_4, w25_6, w25_8, w25_9, w25_12, w25_13, w25_16, w25_17, w25_18, w25_21, w25_22, w25_25, w25_26, w25_27, w25_28, w25_29, w25_32, w25_33, w25_34, w25_37, w25_38, w25_39, w25_42, w25_43, w25_44, w25_45, w25_46, w25_49, w25_50, w25_51, w25_54, w25_55, w25_56, w25_57, w25_58, w25_61, w25_62, w25_63, w25_66, w25_67, w25_68, w25_69, w25_70, w25_71, isO_put, sI_uI, sI_uA, sA_uI, sA_uA, Option.toList_some, List.cons_append, List.nil_append, true_and, and_true, false_and, and_false, ↓reduceIte, g1, g4, g5, g9, g10, g11, g22, ai1, aw1, ae1, as1, aw2, as2, aw6, as6, aw7, as7, ai8, aw8, ae8, as8, t19, h1, h2, e1, e2, tryI, and_self]
def EOk (s : St) : Prop := (2 ≤ (sI s 0).toInt ∧ (sI s 0).toInt ≤ 128) ∧ (0 ≤ (sI s 18).toInt ∧ (sI s 18).toInt ≤ 256) ∧ ∀ k, k < (sI s 18).toInt.toNat → (0 ≤ (sA s 12 k).toInt ∧ (sA s 12 k).toInt < (sI s 0).toInt) ∧ (0 ≤ (sA s 13 k).toInt ∧ (sA s 13 k).toInt < (sI s 0).toInt)
theorem EOk.of {s s' : St} (h : EOk s) (h0 : sI s' 0 = sI s 0) (h18 : sI s' 18 = sI s 18) (h12 : ∀ k, sA s' 12 k = sA s 12 k) (h13 : ∀ k, sA s' 13 k = sA s 13 k) : EOk s' := by
  unfold EOk; rw [h0, h18]; exact ⟨h.1, h.2.1, fun k hk => by rw [h12, h13]; exact h.2.2 k hk⟩
theorem tryI_I {x : Nat} (hx : x ≠ 23) : sI (tryI s a b c) x = sI s x := by
  unfold tryI; split <;> simp only [sI_uA, sI_uI, hx, if_false]
theorem tryI_A {t i : Nat} (ht : t ≠ 1 ∧ t ≠ 2 ∧ t ≠ 6 ∧ t ≠ 7 ∧ t ≠ 8) : sA (tryI s a b c) t i = sA s t i := by
  unfold tryI; split <;> simp only [sA_uA, sA_uI, ht.1, ht.2.1, ht.2.2.1, ht.2.2.2.1, ht.2.2.2.2, false_and, if_false]
def trS (s : St) (e : Nat) : St :=
  if can s (sA s 12 e).toNatClampNeg (sA s 13 e).toNatClampNeg = true then tryI s (sA s 12 e) (sA s 13 e) (sA s 14 e)
  else if can s (sA s 13 e).toNatClampNeg (sA s 12 e).toNatClampNeg = true then tryI s (sA s 13 e) (sA s 12 e) (sA s 14 e) else s
theorem trS_I {x e : Nat} (hx : x ≠ 23) : sI (trS s e) x = sI s x := by
  unfold trS; split
  · exact tryI_I hx
  · split
    · exact tryI_I hx
    · rfl
theorem trS_A {t i e : Nat} (ht : t ≠ 1 ∧ t ≠ 2 ∧ t ≠ 6 ∧ t ≠ 7 ∧ t ≠ 8) : sA (trS s e) t i = sA s t i := by
  unfold trS; split
  · exact tryI_A ht
  · split
    · exact tryI_A ht
    · rfl
def trF : Nat → Nat → St → St
  | 0, _, s => s
  | m + 1, e, s => trF m (e + 1) (trS s e)
theorem l24 (m : Nat) : ∀ (i : Int32) (s : St), EOk s → i.toInt = (sI s 18).toInt - m → 0 ≤ i.toInt → ∀ (l2 l3 : Slot), (l2 = .unset ∧ l3 = .unset ∨ ∃ u v, l2 = .val (.int u) ∧ l3 = .val (.int v)) →
    (W (pj lw) 24 2 [.val (.ref p), .val (.int i), l2, l3] [] k n (ob H p s) Q ↔ Q none (ob H p (trF m i.toNatClampNeg s))) := by
  induction m with
  | zero =>
    intro i s hE hi h0 l2 l3 hl
    have h1 : ¬ i < sI s 18 := by rw [lt32]; omega
    rw [w24_2]; simp +decide only [w24_3, w24_4, w24_7, w24_75, isO_put, true_and, ↓reduceIte, g18, h1, trF]
  | succ m ih =>
    intro i s hE hi h0 l2 l3 hl
    have h1 : i < sI s 18 := by rw [lt32]; omega
    have h2 : (i + 1).toInt = i.toInt + 1 := ia (by simp only [Int32.reduceToInt]; have := hE.2.1; omega) (by simp only [Int32.reduceToInt]; have := hE.2.1; omega)
    have h3 : 0 ≤ i.toInt ∧ i.toInt < 256 := by have := hE.2.1; omega
    have h4 : (i + 1).toNatClampNeg = i.toNatClampNeg + 1 := by rw [cln, cln]; omega
    obtain ⟨q1, q2⟩ := hE.2.2 i.toNatClampNeg (by rw [cln]; omega)
    have b1 : 0 ≤ (sA s 12 i.toNatClampNeg).toInt ∧ (sA s 12 i.toNatClampNeg).toInt < 128 := by have := hE.1; omega
    have b2 : 0 ≤ (sA s 13 i.toNatClampNeg).toInt ∧ (sA s 13 i.toNatClampNeg).toInt < 128 := by have := hE.1; omega
    have hE' : EOk (trS s i.toNatClampNeg) := hE.of (trS_I (by decide)) (trS_I (by decide)) (fun k => trS_A (by decide)) (fun k => trS_A (by decide))
    have key := fun u v => ih (i + 1) (trS s i.toNatClampNeg) hE' (by rw [trS_I (by decide)]; omega) (by omega) (.val (.int u)) (.val (.int v)) (Or.inr ⟨u, v, rfl, rfl⟩)
    rw [trF, ← h4, ← key (sA s 12 i.toNatClampNeg) (sA s 13 i.toNatClampNeg), w24_2]
    unfold trS
    rcases hl with ⟨rfl, rfl⟩ | ⟨u, v, rfl, rfl⟩
    all_goals
      by_cases e1 : can s (sA s 12 i.toNatClampNeg).toNatClampNeg (sA s 13 i.toNatClampNeg).toNatClampNeg = true
      · simp +decide only [w24_3, w24_4, w24_7, w24_10, w24_11, w24_14, w24_15, w24_16i, w24_16, w24_17, w24_18, w24_21, w24_22, w24_23i, w24_23, w24_24, w24_25, w24_26, w24_27, w24_30, w24_33, w24_34, w24_35, w24_36, w24_37, w24_40, w24_41, w24_42, w24_45, w24_69, w24_72, isO_put, Option.toList_some, Option.toList_none, List.cons_append, List.nil_append, true_and, and_true, ↓reduceIte, g15, g16, g17, g18, ai12, ae12, ai13, ae13, ai14, ae14, h1, h3, t23 b1 b2, t23 b2 b1, t25 b1 b2, t25 b2 b1, e1]
      · by_cases e2 : can s (sA s 13 i.toNatClampNeg).toNatClampNeg (sA s 12 i.toNatClampNeg).toNatClampNeg = true
        · simp +decide only [w24_3, w24_4, w24_7, w24_10, w24_11, w24_14, w24_15, w24_16i, w24_16, w24_17, w24_18, w24_21, w24_22, w24_23i, w24_23, w24_24, w24_25, w24_26, w24_27, w24_30, w24_48, w24_49, w24_50, w24_51, w24_54, w24_57, w24_58, w24_59, w24_60, w24_61, w24_64, w24_65, w24_66, w24_69, w24_72, isO_put, Option.toList_some, Option.toList_none, List.cons_append, List.nil_append, true_and, and_true, ↓reduceIte, g15, g16, g17, g18, ai12, ae12, ai13, ae13, ai14, ae14, h1, h3, t23 b1 b2, t23 b2 b1, t25 b1 b2, t25 b2 b1, e1, e2]
        · simp +decide only [w24_3, w24_4, w24_7, w24_10, w24_11, w24_14, w24_15, w24_16i, w24_16, w24_17, w24_18, w24_21, w24_22, w24_23i, w24_23, w24_24, w24_25, w24_26, w24_27, w24_30, w24_48, w24_49, w24_50, w24_51, w24_54, w24_69, w24_72, isO_put, Option.toList_some, List.cons_append, List.nil_append, true_and, and_true, ↓reduceIte, g15, g16, g18, ai12, ae12, ai13, ae13, h1, h3, t23 b1 b2, t23 b2 b1, t25 b1 b2, t25 b2 b1, e1, e2]
theorem t24 (hE : EOk s) : Cl (pj lw) 24 [.ref p] (ob H p s) Q ↔ Q none (ob H p (trF (sI s 18).toInt.toNat 0 s)) := by
  rw [c24]; simp +decide only [w24_0, w24_1]
  rw [l24 (sI s 18).toInt.toNat 0 s hE (by simp only [Int32.reduceToInt]; have := hE.2.1; omega) (by decide) .unset .unset (Or.inl ⟨rfl, rfl⟩)]
  simp only [Int32.reduceToNatClampNeg]
def itF (f : St → Nat → St) : Nat → Nat → St → St
  | 0, _, s => s
  | m + 1, e, s => itF f m (e + 1) (f s e)
theorem itF_inv {f : St → Nat → St} {I : St → Prop} (hf : ∀ s e, I s → I (f s e)) : ∀ (m e : Nat) (s : St), I s → I (itF f m e s)
  | 0, _, _, h => h
  | m + 1, e, s, h => itF_inv hf m (e + 1) (f s e) (hf s e h)
def snS (s : St) (e : Nat) : St := uA (uA s 9 e (sA s 1 e)) 10 e (if 0 < sA s 3 e then 1 else 0)
def pgS (s : St) (e : Nat) : St :=
  if sA s 9 e = 1 then (if sA s 2 e - 1 = 0 then uA (uA (uA s 2 e (sA s 2 e - 1)) 1 e 2) 2 e (sI s 2) else uA s 2 e (sA s 2 e - 1))
  else if sA s 9 e = 2 then (if sA s 2 e - 1 = 0 then uA (uA s 2 e (sA s 2 e - 1)) 1 e 3 else uA s 2 e (sA s 2 e - 1)) else s
def qtS (s : St) (e : Nat) : St := if 0 < sA s 3 e then uA s 3 e (sA s 3 e - 1) else s
theorem snS_I {x e : Nat} : sI (snS s e) x = sI s x := by
  unfold snS; (repeat' split) <;> simp only [sI_uA]
theorem l22 (q : Nat) : ∀ (i : Int32) (s : St), (sI s 0).toInt ≤ 128 → i.toInt = (sI s 0).toInt - q → 0 ≤ i.toInt →
    (W (pj lw) 22 2 [.val (.ref p), .val (.int i)] [] k n (ob H p s) Q ↔ Q none (ob H p (itF snS q i.toNatClampNeg s))) := by
  induction q with
  | zero =>
    intro i s hE hi h0
    have h1 : ¬ i < sI s 0 := by rw [lt32]; omega
    rw [w22_2]; simp +decide only [w22_3, w22_4, w22_7, w22_48, isO_put, true_and, ↓reduceIte, g0, h1, itF]
  | succ q ih =>
    intro i s hE hi h0
    have h1 : i < sI s 0 := by rw [lt32]; omega
    have h2 : (i + 1).toInt = i.toInt + 1 := ia (by simp only [Int32.reduceToInt]; omega) (by simp only [Int32.reduceToInt]; omega)
    have h3 : 0 ≤ i.toInt ∧ i.toInt < 128 := by omega
    have h4 : (i + 1).toNatClampNeg = i.toNatClampNeg + 1 := by rw [cln, cln]; omega
    rw [itF, ← h4, ← ih (i + 1) (snS s i.toNatClampNeg) (by rw [snS_I]; omega) (by rw [snS_I]; omega) (by omega), w22_2]
    unfold snS
    by_cases e1 : 0 < sA s 3 i.toNatClampNeg <;>
      simp +decide only [w22_3, w22_4, w22_7, w22_10, w22_11, w22_14, w22_15, w22_16, w22_19, w22_20, w22_21, w22_22, w22_23, w22_26, w22_27, w22_28, w22_31, w22_32, w22_33, w22_36, w22_37, w22_40, w22_41, w22_42, w22_45, isO_put, sA_uA, true_and, and_true, or_true, ↓reduceIte, g0, g4, g6, g12, g13, ai1, ae1, ai3, ae3, aw9, as9, aw10, awn10, as10, awn10, e1, h1, h3]
theorem t22 (hE : 0 ≤ (sI s 0).toInt ∧ (sI s 0).toInt ≤ 128) : Cl (pj lw) 22 [.ref p] (ob H p s) Q ↔ Q none (ob H p (itF snS (sI s 0).toInt.toNat 0 s)) := by
  rw [c22]; simp +decide only [w22_0, w22_1]
  rw [l22 (sI s 0).toInt.toNat 0 s hE.2 (by simp only [Int32.reduceToInt]; omega) (by decide)]
  simp only [Int32.reduceToNatClampNeg]
theorem qtS_I {x e : Nat} : sI (qtS s e) x = sI s x := by
  unfold qtS; (repeat' split) <;> simp only [sI_uA]
theorem l27 (q : Nat) : ∀ (i : Int32) (s : St), (sI s 0).toInt ≤ 128 → i.toInt = (sI s 0).toInt - q → 0 ≤ i.toInt →
    (W (pj lw) 27 2 [.val (.ref p), .val (.int i)] [] k n (ob H p s) Q ↔ Q none (ob H p (itF qtS q i.toNatClampNeg s))) := by
  induction q with
  | zero =>
    intro i s hE hi h0
    have h1 : ¬ i < sI s 0 := by rw [lt32]; omega
    rw [w27_2]; simp +decide only [w27_3, w27_4, w27_7, w27_39, isO_put, true_and, ↓reduceIte, g0, h1, itF]
  | succ q ih =>
    intro i s hE hi h0
    have h1 : i < sI s 0 := by rw [lt32]; omega
    have h2 : (i + 1).toInt = i.toInt + 1 := ia (by simp only [Int32.reduceToInt]; omega) (by simp only [Int32.reduceToInt]; omega)
    have h3 : 0 ≤ i.toInt ∧ i.toInt < 128 := by omega
    have h4 : (i + 1).toNatClampNeg = i.toNatClampNeg + 1 := by rw [cln, cln]; omega
    rw [itF, ← h4, ← ih (i + 1) (qtS s i.toNatClampNeg) (by rw [qtS_I]; omega) (by rw [qtS_I]; omega) (by omega), w27_2]
    unfold qtS
    by_cases e1 : 0 < sA s 3 i.toNatClampNeg <;>
      simp +decide only [w27_3, w27_4, w27_7, w27_10, w27_11, w27_14, w27_15, w27_16, w27_19, w27_20, w27_23, w27_24, w27_25, w27_28, w27_29, w27_30, w27_31, w27_32, w27_33, w27_36, isO_put, true_and, and_true, ↓reduceIte, g0, g6, ai3, aw3, ae3, as3, e1, h1, h3]
theorem t27 (hE : 0 ≤ (sI s 0).toInt ∧ (sI s 0).toInt ≤ 128) : Cl (pj lw) 27 [.ref p] (ob H p s) Q ↔ Q none (ob H p (itF qtS (sI s 0).toInt.toNat 0 s)) := by
  rw [c27]; simp +decide only [w27_0, w27_1]
  rw [l27 (sI s 0).toInt.toNat 0 s hE.2 (by simp only [Int32.reduceToInt]; omega) (by decide)]
  simp only [Int32.reduceToNatClampNeg]
theorem pgS_I {x e : Nat} : sI (pgS s e) x = sI s x := by
  unfold pgS; (repeat' split) <;> simp only [sI_uA]
theorem l26 (q : Nat) : ∀ (i : Int32) (s : St), (sI s 0).toInt ≤ 128 → i.toInt = (sI s 0).toInt - q → 0 ≤ i.toInt →
    (W (pj lw) 26 2 [.val (.ref p), .val (.int i)] [] k n (ob H p s) Q ↔ Q none (ob H p (itF pgS q i.toNatClampNeg s))) := by
  induction q with
  | zero =>
    intro i s hE hi h0
    have h1 : ¬ i < sI s 0 := by rw [lt32]; omega
    rw [w26_2]; simp +decide only [w26_3, w26_4, w26_7, w26_109, isO_put, true_and, ↓reduceIte, g0, h1, itF]
  | succ q ih =>
    intro i s hE hi h0
    have h1 : i < sI s 0 := by rw [lt32]; omega
    have h2 : (i + 1).toInt = i.toInt + 1 := ia (by simp only [Int32.reduceToInt]; omega) (by simp only [Int32.reduceToInt]; omega)
    have h3 : 0 ≤ i.toInt ∧ i.toInt < 128 := by omega
    have h4 : (i + 1).toNatClampNeg = i.toNatClampNeg + 1 := by rw [cln, cln]; omega
    rw [itF, ← h4, ← ih (i + 1) (pgS s i.toNatClampNeg) (by rw [pgS_I]; omega) (by rw [pgS_I]; omega) (by omega), w26_2]
    unfold pgS
    by_cases e1 : sA s 9 i.toNatClampNeg = 1 <;> by_cases e2 : sA s 9 i.toNatClampNeg = 2 <;> by_cases e3 : sA s 2 i.toNatClampNeg - 1 = 0 <;>
      simp +decide only [w26_3, w26_4, w26_7, w26_10, w26_11, w26_14, w26_15, w26_16, w26_17, w26_20, w26_21, w26_24, w26_25, w26_26, w26_29, w26_30, w26_31, w26_32, w26_33, w26_34, w26_35, w26_38, w26_39, w26_40, w26_43, w26_44, w26_47, w26_48, w26_49, w26_50, w26_51, w26_54, w26_55, w26_56, w26_59, w26_60, w26_63, w26_64, w26_67, w26_68, w26_69, w26_70, w26_73, w26_74, w26_77, w26_78, w26_79, w26_82, w26_83, w26_84, w26_85, w26_86, w26_87, w26_88, w26_91, w26_92, w26_93, w26_96, w26_97, w26_100, w26_101, w26_102, w26_103, w26_106, isO_put, sI_uA, sA_uA, true_and, and_true, ↓reduceIte, g0, g2, g4, g5, g12, aw1, as1, ai2, aw2, ae2, as2, ai9, ae9, e1, e2, e3, h1, h3]
theorem t26 (hE : 0 ≤ (sI s 0).toInt ∧ (sI s 0).toInt ≤ 128) : Cl (pj lw) 26 [.ref p] (ob H p s) Q ↔ Q none (ob H p (itF pgS (sI s 0).toInt.toNat 0 s)) := by
  rw [c26]; simp +decide only [w26_0, w26_1]
  rw [l26 (sI s 0).toInt.toNat 0 s hE.2 (by simp only [Int32.reduceToInt]; omega) (by decide)]
  simp only [Int32.reduceToNatClampNeg]
def oth (s : St) (x : Int32) (e : Nat) : Int32 := if sA s 12 e = x then sA s 13 e else if sA s 13 e = x then sA s 12 e else -1
def tcS (x : Int32) (s : St) (e : Nat) : St :=
  if oth s x e < 0 then s else if sA s 1 (oth s x e).toNatClampNeg = 3 then s else if sA s 4 (oth s x e).toNatClampNeg = 0 then uA (uA s 3 (oth s x e).toNatClampNeg (sI s 3)) 5 (oth s x e).toNatClampNeg 1 else s
theorem tcS_I {y e : Nat} {x : Int32} : sI (tcS x s e) y = sI s y := by
  unfold tcS; (repeat' split) <;> simp only [sI_uA]
theorem tcS_A {t u e : Nat} {x : Int32} (ht : t ≠ 3 ∧ t ≠ 5) : sA (tcS x s e) t u = sA s t u := by
  unfold tcS; (repeat' split) <;> simp only [sA_uA, ht.1, ht.2, false_and, if_false]
theorem tcS_E {e : Nat} {x : Int32} (h : EOk s) : EOk (tcS x s e) := h.of tcS_I tcS_I (fun k => tcS_A (by decide)) (fun k => tcS_A (by decide))
theorem l30 {x : Int32} (q : Nat) : ∀ (i : Int32) (s : St), EOk s → i.toInt = (sI s 18).toInt - q → 0 ≤ i.toInt → ∀ l3 : Slot, (l3 = .unset ∨ ∃ v, l3 = .val (.int v)) →
    (W (pj lw) 30 2 [.val (.ref p), .val (.int x), .val (.int i), l3] [] k n (ob H p s) Q ↔ Q none (ob H p (itF (tcS x) q i.toNatClampNeg s))) := by
  induction q with
  | zero =>
    intro i s hE hi h0 l3 hl
    have h1 : ¬ i < sI s 18 := by rw [lt32]; omega
    rw [w30_2]; simp +decide only [w30_3, w30_4, w30_7, w30_95, isO_put, true_and, ↓reduceIte, g18, h1, itF]
  | succ q ih =>
    intro i s hE hi h0 l3 hl
    have h1 : i < sI s 18 := by rw [lt32]; omega
    have h2 : (i + 1).toInt = i.toInt + 1 := ia (by simp only [Int32.reduceToInt]; have := hE.2.1; omega) (by simp only [Int32.reduceToInt]; have := hE.2.1; omega)
    have h3 : 0 ≤ i.toInt ∧ i.toInt < 256 := by have := hE.2.1; omega
    have h4 : (i + 1).toNatClampNeg = i.toNatClampNeg + 1 := by rw [cln, cln]; omega
    obtain ⟨q1, q2⟩ := hE.2.2 i.toNatClampNeg (by rw [cln]; omega)
    have b1 : 0 ≤ (sA s 12 i.toNatClampNeg).toInt ∧ (sA s 12 i.toNatClampNeg).toInt < 128 := by have := hE.1; omega
    have b2 : 0 ≤ (sA s 13 i.toNatClampNeg).toInt ∧ (sA s 13 i.toNatClampNeg).toInt < 128 := by have := hE.1; omega
    have n1 : ¬ sA s 12 i.toNatClampNeg < 0 := by rw [lt32]; simp only [Int32.reduceToInt]; omega
    have n2 : ¬ sA s 13 i.toNatClampNeg < 0 := by rw [lt32]; simp only [Int32.reduceToInt]; omega
    have key := fun v => ih (i + 1) (tcS x s i.toNatClampNeg) (tcS_E hE) (by rw [tcS_I]; omega) (by omega) (.val (.int v)) (Or.inr ⟨v, rfl⟩)
    rw [itF, ← h4, ← key (oth s x i.toNatClampNeg), w30_2]
    unfold tcS
    rcases hl with rfl | ⟨v, rfl⟩
    all_goals
      by_cases e1 : sA s 12 i.toNatClampNeg = x
      · have eo : oth s x i.toNatClampNeg = sA s 13 i.toNatClampNeg := by simp only [oth, e1, if_true]
        by_cases e3 : sA s 1 (sA s 13 i.toNatClampNeg).toNatClampNeg = 3 <;> by_cases e4 : sA s 4 (sA s 13 i.toNatClampNeg).toNatClampNeg = 0 <;>
        simp +decide only [w30_3, w30_4, w30_7, w30_10, w30_11i, w30_11, w30_12, w30_13, w30_16, w30_17, w30_18, w30_19, w30_22, w30_23, w30_26, w30_27, w30_28i, w30_29, w30_49, w30_50, w30_53, w30_54, w30_57, w30_58, w30_59, w30_60, w30_63, w30_64, w30_67, w30_68, w30_69, w30_72, w30_73, w30_76, w30_77, w30_78, w30_81, w30_82, w30_83, w30_86, w30_87, w30_88, w30_89, w30_92, isO_put, true_and, and_true, or_true, ↓reduceIte, g3, g4, g6, g7, g8, g15, g16, g18, ai1, ae1, aw3, as3, ai4, ain4, ae4, aw5, awn5, as5, ai12, ae12, ai13, ae13, h1, h3, b2, n2, ain4, awn5, e1, e3, e4, eo]
      · by_cases e2 : sA s 13 i.toNatClampNeg = x
        · have eo : oth s x i.toNatClampNeg = sA s 12 i.toNatClampNeg := by simp only [oth, e1, e2, if_true, if_false]
          by_cases e3 : sA s 1 (sA s 12 i.toNatClampNeg).toNatClampNeg = 3 <;> by_cases e4 : sA s 4 (sA s 12 i.toNatClampNeg).toNatClampNeg = 0 <;>
          simp +decide only [w30_3, w30_4, w30_7, w30_10, w30_11i, w30_11, w30_12, w30_13, w30_16, w30_17, w30_18, w30_19, w30_32, w30_33, w30_36, w30_37, w30_38, w30_39, w30_42, w30_43, w30_46, w30_47, w30_48i, w30_49, w30_50, w30_53, w30_54, w30_57, w30_58, w30_59, w30_60, w30_63, w30_64, w30_67, w30_68, w30_69, w30_72, w30_73, w30_76, w30_77, w30_78, w30_81, w30_82, w30_83, w30_86, w30_87, w30_88, w30_89, w30_92, isO_put, true_and, and_true, or_true, ↓reduceIte, g3, g4, g6, g7, g8, g15, g16, g18, ai1, ae1, aw3, as3, ai4, ain4, ae4, aw5, awn5, as5, ai12, ae12, ai13, ae13, h1, h3, b1, n1, ain4, awn5, e1, e2, e3, e4, eo]
        · have eo : oth s x i.toNatClampNeg = -1 := by simp only [oth, e1, e2, if_false]
          simp +decide only [w30_3, w30_4, w30_7, w30_10, w30_11i, w30_11, w30_12, w30_13, w30_16, w30_17, w30_18, w30_19, w30_32, w30_33, w30_36, w30_37, w30_38, w30_39, w30_49, w30_50, w30_89, w30_92, isO_put, true_and, and_true, ↓reduceIte, Int64.reduceLT, Int32.reduceLT, g15, g16, g18, ai12, ae12, ai13, ae13, h1, h3, e1, e2, eo]
theorem t30 {x : Int32} (hE : EOk s) : Cl (pj lw) 30 [.ref p, .int x] (ob H p s) Q ↔ Q none (ob H p (itF (tcS x) (sI s 18).toInt.toNat 0 s)) := by
  rw [c30]; simp +decide only [w30_0, w30_1]
  rw [l30 (sI s 18).toInt.toNat 0 s hE (by simp only [Int32.reduceToInt]; have := hE.2.1; omega) (by decide) .unset (Or.inl rfl)]
  simp only [Int32.reduceToNatClampNeg]
def toS (s : St) (x : Int32) : St :=
  if sA s 1 x.toNatClampNeg = 2 then itF (tcS x) (sI s 18).toInt.toNat 0 (uA (uA (uI (uI (uA s 5 x.toNatClampNeg 0) 20 (sI s 20 + 1)) 21 (sI s 21 + 1)) 4 x.toNatClampNeg 1) 3 x.toNatClampNeg (sI s 3))
  else uI (uA s 5 x.toNatClampNeg 0) 20 (sI s 20 + 1)
theorem t29 {x : Int32} (hE : EOk s) (hx : 0 ≤ x.toInt ∧ x.toInt < 128) : Cl (pj lw) 29 [.ref p, .int x] (ob H p s) Q ↔ Q none (ob H p (toS s x)) := by
  rw [c29]
  unfold toS
  by_cases e : sA s 1 x.toNatClampNeg = 2
  · simp +decide only [w29_0, w29_1, w29_4, w29_5, w29_6, w29_7, w29_8, w29_9, w29_12, w29_13, w29_14, w29_17, w29_18, w29_21, w29_22, w29_23, w29_24, w29_28, w29_29, w29_30, w29_33, w29_34, w29_35, w29_38, w29_39, w29_42, w29_43, w29_44, w29_45, w29_46, w29_49, w29_50, w29_51, w29_54, w29_55, w29_56, w29_57, isO_put, isOw_put, okv_int, sI_uI, sI_uA, sA_uI, sA_uA, true_and, and_true, or_true, ↓reduceIte, g3, g4, g6, g7, g8, g20, s20, g21, s21, ai1, ae1, aw3, as3, aw4, awn4, as4, aw5, awn5, as5, awn4, awn5, hx, e]
    rw [t30 (hE.of (by simp +decide only [sI_uI, sI_uA, ↓reduceIte]) (by simp +decide only [sI_uI, sI_uA, ↓reduceIte]) (fun k => by simp +decide only [sA_uI, sA_uA, false_and, ↓reduceIte]) (fun k => by simp +decide only [sA_uI, sA_uA, false_and, ↓reduceIte]))]
    simp +decide only [w29_60, sI_uI, sI_uA, Option.toList_none, List.nil_append, ↓reduceIte]
  · simp +decide only [w29_0, w29_1, w29_4, w29_5, w29_6, w29_7, w29_8, w29_9, w29_12, w29_13, w29_14, w29_17, w29_18, w29_21, w29_22, w29_23, w29_24, w29_27, isO_put, isOw_put, okv_int, sI_uA, sA_uI, sA_uA, true_and, and_true, or_true, ↓reduceIte, g4, g8, g20, s20, ai1, ae1, aw5, awn5, as5, awn5, hx, e]
theorem toS_I {y : Nat} {x : Int32} (hy : y ≠ 20 ∧ y ≠ 21) : sI (toS s x) y = sI s y := by
  unfold toS; split
  · exact itF_inv (I := fun s' => sI s' y = sI s y) (fun s' e h => by rw [tcS_I]; exact h) _ _ _ (by simp only [sI_uA, sI_uI, hy.1, hy.2, if_false])
  · simp only [sI_uA, sI_uI, hy.1, if_false]
theorem toS_A {t u : Nat} {x : Int32} (ht : t ≠ 3 ∧ t ≠ 4 ∧ t ≠ 5) : sA (toS s x) t u = sA s t u := by
  unfold toS; split
  · exact itF_inv (I := fun s' => sA s' t u = sA s t u) (fun s' e h => by rw [tcS_A ⟨ht.1, ht.2.2⟩]; exact h) _ _ _ (by simp only [sA_uA, sA_uI, ht.1, ht.2.1, ht.2.2, false_and, if_false])
  · simp only [sA_uA, sA_uI, ht.2.2, false_and, if_false]
theorem toS_E {x : Int32} (h : EOk s) : EOk (toS s x) := h.of (toS_I (by decide)) (toS_I (by decide)) (fun k => toS_A (by decide)) (fun k => toS_A (by decide))
def slF : Nat → Int32 → Int32 → St → Int32 × St
  | 0, _, c, s => (c, s)
  | m + 1, i, c, s => if c < sI s 19 then (if sA s 5 i.toNatClampNeg = 0 then slF m (i + 1) c s else slF m (i + 1) (c + 1) (uA s 11 c.toNatClampNeg i)) else (c, s)
def tsS (s : St) (e : Nat) : St := toS s (sA s 11 e)
theorem tsS_I {y e : Nat} (hy : y ≠ 20 ∧ y ≠ 21) : sI (tsS s e) y = sI s y := toS_I hy
theorem tsS_A {t u e : Nat} (ht : t ≠ 3 ∧ t ≠ 4 ∧ t ≠ 5) : sA (tsS s e) t u = sA s t u := toS_A ht
theorem l28 (q : Nat) : ∀ (i c : Int32) (s : St), (sI s 0).toInt ≤ 128 → (sI s 19).toInt ≤ 16 → i.toInt = (sI s 0).toInt - q → 0 ≤ i.toInt → 0 ≤ c.toInt →
    (W (pj lw) 28 4 [.val (.ref p), .val (.int c), .val (.int i)] [] k n (ob H p s) Q ↔ W (pj lw) 28 47 [.val (.ref p), .val (.int (slF q i c s).1), .val (.int 0)] [] k n (ob H p (slF q i c s).2) Q) := by
  induction q with
  | zero =>
    intro i c s hn hc hi h0 hc0
    have h1 : ¬ i < sI s 0 := by rw [lt32]; omega
    rw [w28_4]; simp +decide only [w28_5, w28_6, w28_9, w28_45, w28_46i, isO_put, true_and, ↓reduceIte, g0, h1, slF]
  | succ q ih =>
    intro i c s hn hc hi h0 hc0
    have h1 : i < sI s 0 := by rw [lt32]; omega
    have h2 : (i + 1).toInt = i.toInt + 1 := ia (by simp only [Int32.reduceToInt]; omega) (by simp only [Int32.reduceToInt]; omega)
    have h3 : 0 ≤ i.toInt ∧ i.toInt < 128 := by omega
    rw [slF, w28_4]
    by_cases e1 : c < sI s 19
    · have hc1 : c.toInt < (sI s 19).toInt := lt32.mp e1
      have h5 : 0 ≤ c.toInt ∧ c.toInt < 128 := by omega
      have h6 : (c + 1).toInt = c.toInt + 1 := ia (by simp only [Int32.reduceToInt]; omega) (by simp only [Int32.reduceToInt]; omega)
      rw [if_pos e1]
      by_cases e2 : sA s 5 i.toNatClampNeg = 0
      · rw [if_pos e2, ← ih (i + 1) c s hn hc (by omega) (by omega) hc0]
        simp +decide only [w28_5, w28_6, w28_9, w28_12, w28_13, w28_14, w28_17, w28_20, w28_21, w28_24, w28_25, w28_26, w28_39, w28_42, isO_put, true_and, and_true, or_true, ↓reduceIte, g0, g8, g19, ai5, ain5, ae5, ain5, h1, h3, e1, e2]
      · rw [if_neg e2, ← ih (i + 1) (c + 1) (uA s 11 c.toNatClampNeg i) (by rw [sI_uA]; exact hn) (by rw [sI_uA]; exact hc) (by rw [sI_uA]; omega) (by omega) (by omega)]
        simp +decide only [w28_5, w28_6, w28_9, w28_12, w28_13, w28_14, w28_17, w28_20, w28_21, w28_24, w28_25, w28_26, w28_29, w28_30, w28_33, w28_34, w28_35, w28_36, w28_39, w28_42, isO_put, true_and, and_true, or_true, ↓reduceIte, g0, g8, g14, g19, ai5, ain5, ae5, aw11, as11, ain5, h1, h3, h5, e1, e2]
    · rw [if_neg e1]
      simp +decide only [w28_5, w28_6, w28_9, w28_12, w28_13, w28_14, w28_17, w28_45, w28_46i, isO_put, true_and, ↓reduceIte, g0, g19, h1, e1]
theorem m28 {c : Int32} (q : Nat) : ∀ (i : Int32) (s : St), EOk s → (∀ j, j < c.toNatClampNeg → 0 ≤ (sA s 11 j).toInt ∧ (sA s 11 j).toInt < 128) → c.toInt ≤ 128 → i.toInt = c.toInt - q → 0 ≤ i.toInt →
    (W (pj lw) 28 47 [.val (.ref p), .val (.int c), .val (.int i)] [] k n (ob H p s) Q ↔ Q none (ob H p (itF tsS q i.toNatClampNeg s))) := by
  induction q with
  | zero =>
    intro i s hE hs hc hi h0
    have h1 : ¬ i < c := by rw [lt32]; omega
    rw [w28_47]; simp +decide only [w28_48, w28_49, w28_68, ↓reduceIte, h1, itF]
  | succ q ih =>
    intro i s hE hs hc hi h0
    have h1 : i < c := by rw [lt32]; omega
    have h2 : (i + 1).toInt = i.toInt + 1 := ia (by simp only [Int32.reduceToInt]; omega) (by simp only [Int32.reduceToInt]; omega)
    have h3 : 0 ≤ i.toInt ∧ i.toInt < 128 := by omega
    have h4 : (i + 1).toNatClampNeg = i.toNatClampNeg + 1 := by rw [cln, cln]; omega
    have hb := hs i.toNatClampNeg (by rw [cln, cln]; omega)
    rw [itF, ← h4, ← ih (i + 1) (tsS s i.toNatClampNeg) (toS_E hE) (fun j hj => by rw [tsS_A (by decide)]; exact hs j hj) hc (by omega) (by omega), w28_47]
    simp +decide only [w28_48, w28_49, w28_52, w28_53, w28_54, w28_57, w28_58, w28_59, w28_62, w28_65, isO_put, Option.toList_none, List.nil_append, true_and, and_true, ↓reduceIte, g14, ai11, ae11, h1, h3, t29 hE hb, tsS]
theorem slF_p (q : Nat) : ∀ (i c : Int32) (s : St), (sI s 0).toInt ≤ 128 → (sI s 19).toInt ≤ 16 → i.toInt = (sI s 0).toInt - q → 0 ≤ i.toInt → 0 ≤ c.toInt → c.toInt ≤ 16 → (∀ j, j < c.toNatClampNeg → 0 ≤ (sA s 11 j).toInt ∧ (sA s 11 j).toInt < 128) →
    (∀ x, sI (slF q i c s).2 x = sI s x) ∧ (∀ t u, t ≠ 11 → sA (slF q i c s).2 t u = sA s t u) ∧ 0 ≤ (slF q i c s).1.toInt ∧ (slF q i c s).1.toInt ≤ 16 ∧ ∀ j, j < (slF q i c s).1.toNatClampNeg → 0 ≤ (sA (slF q i c s).2 11 j).toInt ∧ (sA (slF q i c s).2 11 j).toInt < 128 := by
  induction q with
  | zero => intro i c s hn hc hi h0 hc0 hc1 hs; exact ⟨fun _ => rfl, fun _ _ _ => rfl, hc0, hc1, hs⟩
  | succ q ih =>
    intro i c s hn hc hi h0 hc0 hc1 hs
    have h2 : (i + 1).toInt = i.toInt + 1 := ia (by simp only [Int32.reduceToInt]; omega) (by simp only [Int32.reduceToInt]; omega)
    rw [slF]
    by_cases e1 : c < sI s 19
    · have hc2 : c.toInt < (sI s 19).toInt := lt32.mp e1
      have h6 : (c + 1).toInt = c.toInt + 1 := ia (by simp only [Int32.reduceToInt]; omega) (by simp only [Int32.reduceToInt]; omega)
      rw [if_pos e1]
      by_cases e2 : sA s 5 i.toNatClampNeg = 0
      · rw [if_pos e2]; exact ih (i + 1) c s hn hc (by omega) (by omega) hc0 hc1 hs
      · rw [if_neg e2]
        obtain ⟨r1, r2, r3, r4, r5⟩ := ih (i + 1) (c + 1) (uA s 11 c.toNatClampNeg i) (by rw [sI_uA]; exact hn) (by rw [sI_uA]; exact hc) (by rw [sI_uA]; omega) (by omega) (by omega) (by omega) (fun j hj => by
          rw [sA_uA]
          by_cases ej : j = c.toNatClampNeg
          · rw [if_pos ⟨rfl, ej⟩]; omega
          · rw [if_neg (fun u => ej u.2)]; exact hs j (by rw [cln] at *; omega))
        exact ⟨fun x => by rw [r1, sI_uA], fun t u ht => by rw [r2 t u ht, sA_uA, if_neg (fun w => ht w.1)], r3, r4, r5⟩
    · rw [if_neg e1]; exact ⟨fun _ => rfl, fun _ _ _ => rfl, hc0, hc1, hs⟩
def teS (s : St) : St := itF tsS (slF (sI s 0).toInt.toNat 0 0 s).1.toNatClampNeg 0 (slF (sI s 0).toInt.toNat 0 0 s).2
theorem t28 (hE : EOk s) (hc : (sI s 19).toInt ≤ 16) : Cl (pj lw) 28 [.ref p] (ob H p s) Q ↔ Q none (ob H p (teS s)) := by
  obtain ⟨r1, r2, r3, r4, r5⟩ := slF_p (sI s 0).toInt.toNat 0 0 s hE.1.2 hc (by simp only [Int32.reduceToInt]; have := hE.1; omega) (by decide) (by decide) (by decide) (fun j hj => absurd hj (by simp only [Int32.reduceToNatClampNeg]; omega))
  have hE2 : EOk (slF (sI s 0).toInt.toNat 0 0 s).2 := hE.of (r1 0) (r1 18) (fun k => r2 12 k (by decide)) (fun k => r2 13 k (by decide))
  rw [c28]; simp +decide only [w28_0, w28_1, w28_2, w28_3]
  rw [l28 (sI s 0).toInt.toNat 0 0 s hE.1.2 hc (by simp only [Int32.reduceToInt]; have := hE.1; omega) (by decide) (by decide)]
  rw [m28 (slF (sI s 0).toInt.toNat 0 0 s).1.toNatClampNeg 0 _ hE2 r5 (by omega) (by rw [cln]; simp only [Int32.reduceToInt]; omega) (by decide)]
  simp only [Int32.reduceToNatClampNeg, teS]
def Iv (s : St) : Prop := EOk s ∧ (0 ≤ (sI s 19).toInt ∧ (sI s 19).toInt ≤ 16)
theorem Iv.of {s s' : St} (h : Iv s) (h0 : sI s' 0 = sI s 0) (h18 : sI s' 18 = sI s 18) (h19 : sI s' 19 = sI s 19) (h12 : ∀ k, sA s' 12 k = sA s 12 k) (h13 : ∀ k, sA s' 13 k = sA s 13 k) : Iv s' := ⟨h.1.of h0 h18 h12 h13, by rw [h19]; exact h.2⟩
theorem Iv_b (h : Iv s) : 0 ≤ (sI s 0).toInt ∧ (sI s 0).toInt ≤ 128 := ⟨by have := h.1.1; omega, h.1.1.2⟩
theorem snS_A {t u e : Nat} (ht : t ≠ 9 ∧ t ≠ 10) : sA (snS s e) t u = sA s t u := by simp only [snS, sA_uA, ht.1, ht.2, false_and, if_false]
theorem pgS_A {t u e : Nat} (ht : t ≠ 1 ∧ t ≠ 2) : sA (pgS s e) t u = sA s t u := by
  unfold pgS; (repeat' split) <;> simp only [sA_uA, ht.1, ht.2, false_and, if_false]
theorem qtS_A {t u e : Nat} (ht : t ≠ 3) : sA (qtS s e) t u = sA s t u := by
  unfold qtS; split <;> simp only [sA_uA, ht, false_and, if_false]
theorem Iv_sn (h : Iv s) (m e : Nat) : Iv (itF snS m e s) := itF_inv (fun s e h => h.of snS_I snS_I snS_I (fun k => snS_A (by decide)) (fun k => snS_A (by decide))) m e s h
theorem Iv_pg (h : Iv s) (m e : Nat) : Iv (itF pgS m e s) := itF_inv (fun s e h => h.of pgS_I pgS_I pgS_I (fun k => pgS_A (by decide)) (fun k => pgS_A (by decide))) m e s h
theorem Iv_qt (h : Iv s) (m e : Nat) : Iv (itF qtS m e s) := itF_inv (fun s e h => h.of qtS_I qtS_I qtS_I (fun k => qtS_A (by decide)) (fun k => qtS_A (by decide))) m e s h
theorem Iv_tr : ∀ (m e : Nat) (s : St), Iv s → Iv (trF m e s)
  | 0, _, _, h => h
  | m + 1, e, s, h => Iv_tr m (e + 1) (trS s e) (h.of (trS_I (by decide)) (trS_I (by decide)) (trS_I (by decide)) (fun k => trS_A (by decide)) (fun k => trS_A (by decide)))
theorem Iv_te (h : Iv s) : Iv (teS s) := by
  obtain ⟨r1, r2, -⟩ := slF_p (sI s 0).toInt.toNat 0 0 s h.1.1.2 h.2.2 (by simp only [Int32.reduceToInt]; have := h.1.1; omega) (by decide) (by decide) (by decide) (fun j hj => absurd hj (by simp only [Int32.reduceToNatClampNeg]; omega))
  exact itF_inv (fun s e h => h.of (tsS_I (by decide)) (tsS_I (by decide)) (tsS_I (by decide)) (fun k => tsS_A (by decide)) (fun k => tsS_A (by decide))) _ _ _ (h.of (r1 0) (r1 18) (r1 19) (fun k => r2 12 k (by decide)) (fun k => r2 13 k (by decide)))
def d1 (s : St) : St := itF snS (sI s 0).toInt.toNat 0 s
def d2 (s : St) : St := trF (sI (d1 s) 18).toInt.toNat 0 (d1 s)
def d3 (s : St) : St := itF pgS (sI (d2 s) 0).toInt.toNat 0 (d2 s)
def d4 (s : St) : St := itF qtS (sI (d3 s) 0).toInt.toNat 0 (d3 s)
theorem Iv_d1 (h : Iv s) : Iv (d1 s) := Iv_sn h _ _
theorem Iv_d2 (h : Iv s) : Iv (d2 s) := Iv_tr _ _ _ (Iv_d1 h)
theorem Iv_d3 (h : Iv s) : Iv (d3 s) := Iv_pg (Iv_d2 h) _ _
theorem Iv_d4 (h : Iv s) : Iv (d4 s) := Iv_qt (Iv_d3 h) _ _
theorem t22d (h : Iv s) : Cl (pj lw) 22 [.ref p] (ob H p s) Q ↔ Q none (ob H p (d1 s)) := t22 (Iv_b h)
theorem t24d (h : Iv s) : Cl (pj lw) 24 [.ref p] (ob H p (d1 s)) Q ↔ Q none (ob H p (d2 s)) := t24 (Iv_d1 h).1
theorem t26d (h : Iv s) : Cl (pj lw) 26 [.ref p] (ob H p (d2 s)) Q ↔ Q none (ob H p (d3 s)) := t26 (Iv_b (Iv_d2 h))
theorem t27d (h : Iv s) : Cl (pj lw) 27 [.ref p] (ob H p (d3 s)) Q ↔ Q none (ob H p (d4 s)) := t27 (Iv_b (Iv_d3 h))
def dayS (s : St) : St := uI (teS (d4 s)) 22 (sI (teS (d4 s)) 22 + 1)
theorem Iv_day (h : Iv s) : Iv (dayS s) := by
  unfold dayS
  exact (Iv_te (Iv_d4 h)).of (by simp +decide only [sI_uI, ↓reduceIte]) (by simp +decide only [sI_uI, ↓reduceIte]) (by simp +decide only [sI_uI, ↓reduceIte]) (fun k => by rw [sA_uI]) (fun k => by rw [sA_uI])
theorem t28d (h : Iv s) : Cl (pj lw) 28 [.ref p] (ob H p (d4 s)) Q ↔ Q none (ob H p (teS (d4 s))) := t28 (Iv_d4 h).1 (Iv_d4 h).2.2
theorem t21 (h : Iv s) : Cl (pj lw) 21 [.ref p] (ob H p s) Q ↔ Q none (ob H p (dayS s)) := by
  rw [c21]
  simp +decide only [w21_0, w21_1, w21_4, w21_5, w21_8, w21_9, w21_12, w21_13, w21_16, w21_17, w21_20, w21_21, w21_22, w21_25, w21_26, w21_27, w21_30, isO_put, isOw_put, okv_int, Option.toList_none, List.nil_append, true_and, and_true, Nat.reduceAdd, Nat.reduceLeDiff, Int32.reduceAdd, Int64.reduceAdd, Nat.add_zero, g22, s22, t22d h, t24d h, t26d h, t27d h, t28d h, dayS]
end B

section C
variable {lw : LW} {H : AH} {p j : Nat} {s : St} {Q : Option Value → AH → Prop} {a b c d : Int32} {h : Nat → Cel} {k n : Nat}
def runF : Nat → St → St
  | 0, s => s
  | m + 1, s => runF m (dayS s)
theorem l7 {e f : Int32} (q : Nat) : ∀ (i : Int32) (s : St), Iv s → i.toInt = e.toInt - q → 0 ≤ i.toInt → e.toInt ≤ 8 →
    (W (pj lw) 7 11 [.val (.ref p), .val (.int f), .val (.int e), .val (.int i)] [] k n (ob H p s) Q ↔ Q (some (.int (sI (runF q s) 22))) (ob H p (runF q s))) := by
  induction q with
  | zero =>
    intro i s hI hi h0 h8
    have h1 : ¬ i < e := by rw [lt32]; omega
    rw [w7_11]; simp +decide only [w7_12, w7_13, w7_26, w7_27, w7_30, isO_put, true_and, ↓reduceIte, g22, h1, runF]
  | succ q ih =>
    intro i s hI hi h0 h8
    have h1 : i < e := by rw [lt32]; omega
    have h2 : (i + 1).toInt = i.toInt + 1 := ia (by simp only [Int32.reduceToInt]; omega) (by simp only [Int32.reduceToInt]; omega)
    rw [w7_11]; simp +decide only [w7_12, w7_13, w7_16, w7_17, w7_20, w7_23, isO_put, Option.toList_none, List.nil_append, true_and, and_true, ↓reduceIte, h1, t21 hI]
    rw [ih (i + 1) _ (Iv_day hI) (by omega) (by omega) h8, runF]
theorem t7 (hI : Iv s) : Cl (pj lw) 7 [.ref p, .int a] (ob H p s) Q ↔ Q (some (.int (sI (runF (cl 0 8 a).toInt.toNat s) 22))) (ob H p (runF (cl 0 8 a).toInt.toNat s)) := by
  rw [c7]; simp +decide only [w7_0, w7_1, w7_2, w7_3, w7_5, w7_8, w7_9, w7_10, isO_put, Option.toList_some, List.cons_append, List.nil_append, true_and, and_true, t17]
  have hr := cl_rg (lo := 0) (hi := 8) a (by decide)
  simp only [Int32.reduceToInt] at hr
  rw [l7 (cl 0 8 a).toInt.toNat 0 s hI (by simp only [Int32.reduceToInt]; omega) (by decide) hr.2]
def exE (s : St) (a b : Int32) : Nat → Nat → Bool
  | 0, _ => false
  | q + 1, e => if (sA s 12 e = a ∧ sA s 13 e = b) ∨ (sA s 12 e = b ∧ sA s 13 e = a) then true else exE s a b q (e + 1)
def bz (x : Bool) : Int32 := if x = true then 1 else 0
theorem l20 (q : Nat) : ∀ (i : Int32), (sI s 18).toInt ≤ 256 → i.toInt = (sI s 18).toInt - q → 0 ≤ i.toInt → ∀ l4 l5 : Slot, (l4 = .unset ∧ l5 = .unset ∨ ∃ u v, l4 = .val (.int u) ∧ l5 = .val (.int v)) →
    (W (pj lw) 20 2 [.val (.ref p), .val (.int a), .val (.int b), .val (.int i), l4, l5] [] k n (ob H p s) Q ↔ Q (some (.int (bz (exE s a b q i.toNatClampNeg)))) (ob H p s)) := by
  induction q with
  | zero =>
    intro i hn hi h0 l4 l5 hl
    have h1 : ¬ i < sI s 18 := by rw [lt32]; omega
    rw [w20_2]; simp +decide only [w20_3, w20_4, w20_7, w20_58, w20_59, isO_put, true_and, ↓reduceIte, g18, h1, exE, bz]
  | succ q ih =>
    intro i hn hi h0 l4 l5 hl
    have h1 : i < sI s 18 := by rw [lt32]; omega
    have h2 : (i + 1).toInt = i.toInt + 1 := ia (by simp only [Int32.reduceToInt]; omega) (by simp only [Int32.reduceToInt]; omega)
    have h3 : 0 ≤ i.toInt ∧ i.toInt < 256 := by omega
    have h4 : (i + 1).toNatClampNeg = i.toNatClampNeg + 1 := by rw [cln, cln]; omega
    have key := ih (i + 1) hn (by omega) (by omega) (.val (.int (sA s 12 i.toNatClampNeg))) (.val (.int (sA s 13 i.toNatClampNeg))) (Or.inr ⟨_, _, rfl, rfl⟩)
    rw [h4] at key
    rw [exE, w20_2]
    rcases hl with ⟨rfl, rfl⟩ | ⟨u, v, rfl, rfl⟩
    all_goals
      rcases Classical.propComplete (sA s 12 i.toNatClampNeg = a) with e1 | e1 <;> rcases Classical.propComplete (sA s 13 i.toNatClampNeg = b) with e2 | e2 <;> rcases Classical.propComplete (sA s 12 i.toNatClampNeg = b) with e3 | e3 <;> rcases Classical.propComplete (sA s 13 i.toNatClampNeg = a) with e4 | e4 <;>
      simp +decide only [w20_3, w20_4, w20_7, w20_10, w20_11, w20_14, w20_15, w20_16i, w20_16, w20_18, w20_19, w20_22, w20_23, w20_24i, w20_24, w20_26, w20_28, w20_29, w20_32, w20_34, w20_35, w20_38, w20_40, w20_41, w20_44, w20_46, w20_47, w20_50, w20_51, w20_52, w20_55, isO_put, true_and, and_true, and_false, or_false, or_true, ↓reduceIte, g15, g16, g18, ai12, ae12, ai13, ae13, h1, h3, e1, e2, e3, e4, key, bz]
theorem t20 (hE : 0 ≤ (sI s 18).toInt ∧ (sI s 18).toInt ≤ 256) : Cl (pj lw) 20 [.ref p, .int a, .int b] (ob H p s) Q ↔ Q (some (.int (bz (exE s a b (sI s 18).toInt.toNat 0)))) (ob H p s) := by
  rw [c20]; simp +decide only [w20_0, w20_1]
  rw [l20 (sI s 18).toInt.toNat 0 hE.2 (by simp only [Int32.reduceToInt]; omega) (by decide) .unset .unset (Or.inl ⟨rfl, rfl⟩)]
  simp only [Int32.reduceToNatClampNeg]
theorem l31 {e : Int32} (m : Nat) : ∀ (j c : Int32), j.toInt = (sI s 0).toInt - m → 0 ≤ j.toInt → (sI s 0).toInt ≤ 128 → (W (pj lw) 31 4 [.val (.ref p), .val (.int e), .val (.int c), .val (.int j)] [] k n (ob H p s) Q ↔ Q (some (.int (c + Int32.ofNat (cnt (fun i => decide (sA s 1 i = e)) j.toNatClampNeg m)))) (ob H p s)) := by
  induction m with
  | zero =>
    intro j c hj h0 hn
    have h1 : ¬ j < sI s 0 := by rw [lt32]; omega
    rw [w31_4]; simp +decide only [w31_5, w31_6, w31_9, w31_31, w31_32, isO_put, true_and, ↓reduceIte, g0, h1]
    rw [cnt, add_ofNat_zero]
  | succ m ih =>
    intro j c hj h0 hn
    have h1 : j < sI s 0 := by rw [lt32]; omega
    have h2 : (j + 1).toInt = j.toInt + 1 := ia (by simp only [Int32.reduceToInt]; omega) (by simp only [Int32.reduceToInt]; omega)
    have h3 : 0 ≤ j.toInt ∧ j.toInt < 128 := by omega
    have h4 : (j + 1).toNatClampNeg = j.toNatClampNeg + 1 := by rw [cln, cln]; omega
    rw [w31_4]
    rcases Classical.propComplete (sA s 1 j.toNatClampNeg = e) with h5 | h5
    · simp +decide only [w31_5, w31_6, w31_9, w31_12, w31_13, w31_16, w31_17, w31_18, w31_19, w31_22, w31_25, w31_28, isO_put, true_and, and_true, ↓reduceIte, g0, g4, ai1, ae1, h1, h3, h5]
      rw [ih (j + 1) (c + 1) (by omega) (by omega) hn, h4, cnt, ofNat_one_add]
      simp [h5]
    · simp +decide only [w31_5, w31_6, w31_9, w31_12, w31_13, w31_16, w31_17, w31_18, w31_19, w31_25, w31_28, isO_put, true_and, and_true, ↓reduceIte, g0, g4, ai1, ae1, h1, h3, h5]
      rw [ih (j + 1) c (by omega) (by omega) hn, h4, cnt]
      simp [h5]
theorem t31 {e : Int32} (h0 : 0 ≤ (sI s 0).toInt ∧ (sI s 0).toInt ≤ 128) : Cl (pj lw) 31 [.ref p, .int e] (ob H p s) Q ↔ Q (some (.int (Int32.ofNat (cnt (fun i => decide (sA s 1 i = e)) 0 (sI s 0).toInt.toNat)))) (ob H p s) := by
  rw [c31]; simp +decide only [w31_0, w31_1, w31_2, w31_3]
  rw [l31 (sI s 0).toInt.toNat 0 0 (by simp only [Int32.reduceToInt]; omega) (by decide) h0.2, Int32.zero_add]; rfl
theorem l15 {e : Int32} (m : Nat) : ∀ (j c : Int32), j.toInt = (sI s 0).toInt - m → 0 ≤ j.toInt → (sI s 0).toInt ≤ 128 → (W (pj lw) 15 14 [.val (.ref p), .val (.int e), .val (.int c), .val (.int j)] [] k n (ob H p s) Q ↔ Q (some (.int (c + Int32.ofNat (cnt (fun i => decide (sA s 6 i = e)) j.toNatClampNeg m)))) (ob H p s)) := by
  induction m with
  | zero =>
    intro j c hj h0 hn
    have h1 : ¬ j < sI s 0 := by rw [lt32]; omega
    rw [w15_14]; simp +decide only [w15_15, w15_16, w15_19, w15_41, w15_42, isO_put, true_and, ↓reduceIte, g0, h1]
    rw [cnt, add_ofNat_zero]
  | succ m ih =>
    intro j c hj h0 hn
    have h1 : j < sI s 0 := by rw [lt32]; omega
    have h2 : (j + 1).toInt = j.toInt + 1 := ia (by simp only [Int32.reduceToInt]; omega) (by simp only [Int32.reduceToInt]; omega)
    have h3 : 0 ≤ j.toInt ∧ j.toInt < 128 := by omega
    have h4 : (j + 1).toNatClampNeg = j.toNatClampNeg + 1 := by rw [cln, cln]; omega
    rw [w15_14]
    rcases Classical.propComplete (sA s 6 j.toNatClampNeg = e) with h5 | h5
    · simp +decide only [w15_15, w15_16, w15_19, w15_22, w15_23, w15_26, w15_27, w15_28, w15_29, w15_32, w15_35, w15_38, isO_put, true_and, and_true, ↓reduceIte, g0, g9, ai6, ae6, h1, h3, h5]
      rw [ih (j + 1) (c + 1) (by omega) (by omega) hn, h4, cnt, ofNat_one_add]
      simp [h5]
    · simp +decide only [w15_15, w15_16, w15_19, w15_22, w15_23, w15_26, w15_27, w15_28, w15_29, w15_35, w15_38, isO_put, true_and, and_true, ↓reduceIte, g0, g9, ai6, ae6, h1, h3, h5]
      rw [ih (j + 1) c (by omega) (by omega) hn, h4, cnt]
      simp [h5]
theorem t15 {e : Int32} (h0 : 0 ≤ (sI s 0).toInt ∧ (sI s 0).toInt ≤ 128) : Cl (pj lw) 15 [.ref p, .int e] (ob H p s) Q ↔ Q (some (.int (if ¬ e < 0 ∧ e < sI s 0 then Int32.ofNat (cnt (fun i => decide (sA s 6 i = e)) 0 (sI s 0).toInt.toNat) else -1))) (ob H p s) := by
  rw [c15]
  by_cases e1 : e < 0 <;> by_cases e2 : e < sI s 0 <;> simp +decide only [w15_0, w15_1, w15_2, w15_5, w15_8, w15_9, w15_10, w15_11, w15_12, w15_13, isO_put, Option.toList_some, List.cons_append, List.nil_append, true_and, and_true, and_false, not_true_eq_false, not_false_eq_true, ↓reduceIte, g0, c18, w18_0, w18_1, w18_4, w18_5, w18_6, w18_9, w18_12, w18_13, w18_16, w18_17, e1, e2]
  rw [l15 (sI s 0).toInt.toNat 0 0 (by simp only [Int32.reduceToInt]; omega) (by decide) h0.2, Int32.zero_add]; rfl
def aeOk (s : St) (a b w : Int32) : Bool := decide (((¬ a < 0 ∧ a < sI s 0) ∧ (¬ b < 0 ∧ b < sI s 0)) ∧ ¬ a = b ∧ (¬ w < 1 ∧ ¬ 1000 < w) ∧ exE s a b (sI s 18).toInt.toNat 0 = false ∧ sI s 18 < 256)
def aeS (s : St) (a b w : Int32) : St := uI (uA (uA (uA s 12 (sI s 18).toNatClampNeg a) 13 (sI s 18).toNatClampNeg b) 14 (sI s 18).toNatClampNeg w) 18 (sI s 18 + 1)
theorem t4 {w : Int32} (hE : 0 ≤ (sI s 18).toInt ∧ (sI s 18).toInt ≤ 256) : Cl (pj lw) 4 [.ref p, .int a, .int b, .int w] (ob H p s) Q ↔ if aeOk s a b w = true then Q (some (.int (sI s 18))) (ob H p (aeS s a b w)) else Q (some (.int (-1))) (ob H p s) := by
  rw [c4]; simp only [aeOk, aeS, decide_eq_true_eq]
  by_cases e0 : ((¬ a < 0 ∧ a < sI s 0) ∧ (¬ b < 0 ∧ b < sI s 0))
  · obtain ⟨⟨e1, e2⟩, e3, e4⟩ := e0
    rcases Classical.propComplete (a = b) with e5 | e5
    · simp +decide only [w4_0, w4_1, w4_2, w4_5, w4_8, w4_9, w4_10, w4_13, w4_18, w4_19, w4_20, w4_23, w4_24, isO_put, Option.toList_some, List.cons_append, List.nil_append, true_and, and_true, false_and, and_false, not_true_eq_false, not_false_eq_true, ↓reduceIte, g0, c18, w18_0, w18_1, w18_4, w18_5, w18_6, w18_9, w18_12, w18_13, w18_17, e1, e2, e3, e4, e5]
    · by_cases e6 : w < 1
      · simp +decide only [w4_0, w4_1, w4_2, w4_5, w4_8, w4_9, w4_10, w4_13, w4_18, w4_19, w4_20, w4_25, w4_26, w4_27, w4_37, w4_38, isO_put, Option.toList_some, List.cons_append, List.nil_append, true_and, and_true, false_and, and_false, not_true_eq_false, not_false_eq_true, ↓reduceIte, g0, c18, w18_0, w18_1, w18_4, w18_5, w18_6, w18_9, w18_12, w18_13, w18_17, e1, e2, e3, e4, e5, e6]
      · by_cases e7 : 1000 < w
        · simp +decide only [w4_0, w4_1, w4_2, w4_5, w4_8, w4_9, w4_10, w4_13, w4_18, w4_19, w4_20, w4_25, w4_26, w4_27, w4_30, w4_31, w4_34, w4_37, w4_38, isO_put, Option.toList_some, List.cons_append, List.nil_append, true_and, and_true, false_and, and_false, not_true_eq_false, not_false_eq_true, ↓reduceIte, g0, c18, w18_0, w18_1, w18_4, w18_5, w18_6, w18_9, w18_12, w18_13, w18_17, e1, e2, e3, e4, e5, e6, e7]
        · by_cases e8 : exE s a b (sI s 18).toInt.toNat 0 = true
          · simp +decide only [w4_0, w4_1, w4_2, w4_5, w4_8, w4_9, w4_10, w4_13, w4_18, w4_19, w4_20, w4_25, w4_26, w4_27, w4_30, w4_31, w4_34, w4_39, w4_40, w4_41, w4_42, w4_45, w4_48, w4_49, isO_put, Option.toList_some, List.cons_append, List.nil_append, true_and, and_true, false_and, and_false, not_false_eq_true, ↓reduceIte, g0, c18, w18_0, w18_1, w18_4, w18_5, w18_6, w18_9, w18_12, w18_13, w18_17, t20 hE, bz, e1, e2, e3, e4, e5, e6, e7, e8]
          · replace e8 : exE s a b (sI s 18).toInt.toNat 0 = false := by simpa using e8
            by_cases e9 : sI s 18 < 256
            · have h9 : 0 ≤ (sI s 18).toInt ∧ (sI s 18).toInt < 256 := ⟨hE.1, by rw [lt32] at e9; exact e9⟩
              simp +decide only [w4_0, w4_1, w4_2, w4_5, w4_8, w4_9, w4_10, w4_13, w4_18, w4_19, w4_20, w4_25, w4_26, w4_27, w4_30, w4_31, w4_34, w4_39, w4_40, w4_41, w4_42, w4_45, w4_50, w4_51, w4_54, w4_57, w4_62, w4_63, w4_66, w4_68, w4_69, w4_72, w4_74, w4_75, w4_76, w4_77, w4_80, w4_82, w4_83, w4_84, w4_85, w4_88, w4_90, w4_91, w4_92, w4_93, w4_95, w4_96, w4_97, w4_100, w4_102, isO_put, isOw_put, okv_int, Option.toList_some, List.cons_append, List.nil_append, true_and, and_true, not_false_eq_true, ↓reduceIte, g0, g15, g16, g17, g18, s18, aw12, as12, aw13, as13, aw14, as14, c18, w18_0, w18_1, w18_4, w18_5, w18_6, w18_9, w18_12, w18_13, w18_17, t20 hE, bz, e1, e2, e3, e4, e5, e6, e7, e8, e9, h9]
            · simp +decide only [w4_0, w4_1, w4_2, w4_5, w4_8, w4_9, w4_10, w4_13, w4_18, w4_19, w4_20, w4_25, w4_26, w4_27, w4_30, w4_31, w4_34, w4_39, w4_40, w4_41, w4_42, w4_45, w4_50, w4_51, w4_54, w4_57, w4_60, w4_61, isO_put, Option.toList_some, List.cons_append, List.nil_append, true_and, and_true, and_false, not_false_eq_true, ↓reduceIte, g0, g18, c18, w18_0, w18_1, w18_4, w18_5, w18_6, w18_9, w18_12, w18_13, w18_17, t20 hE, bz, e1, e2, e3, e4, e5, e6, e7, e8, e9]
  · rw [if_neg (fun u => e0 u.1)]
    by_cases e1 : a < 0 <;> by_cases e2 : a < sI s 0 <;> by_cases e3 : b < 0 <;> by_cases e4 : b < sI s 0 <;> first | (simp +decide only [w4_0, w4_1, w4_2, w4_5, w4_8, w4_9, w4_10, w4_13, w4_16, w4_17, isO_put, Option.toList_some, List.cons_append, List.nil_append, true_and, and_true, ↓reduceIte, g0, c18, w18_0, w18_1, w18_4, w18_5, w18_6, w18_9, w18_12, w18_13, w18_16, w18_17, e1, e2, e3, e4]; done) | exact absurd ⟨⟨e1, e2⟩, e3, e4⟩ e0
def inOk (s : St) (a : Int32) : Bool := decide ((¬ a < 0 ∧ a < sI s 0) ∧ sA s 1 a.toNatClampNeg = 0)
def inS (s : St) (a : Int32) : St := uA (uA (uA (uA (uA s 1 a.toNatClampNeg 2) 2 a.toNatClampNeg (sI s 2)) 6 a.toNatClampNeg (-1)) 7 a.toNatClampNeg (sI s 22)) 8 a.toNatClampNeg 0
theorem vix {a : Int32} {N : Int} (h0 : (sI s 0).toInt ≤ N) (e1 : ¬ a < 0) (e2 : a < sI s 0) : 0 ≤ a.toInt ∧ a.toInt < N := by
  rw [lt32] at e1 e2; simp only [Int32.reduceToInt] at e1; omega
theorem t5 (h0 : (sI s 0).toInt ≤ 128) : Cl (pj lw) 5 [.ref p, .int a] (ob H p s) Q ↔ if inOk s a = true then Q (some (.int 1)) (ob H p (inS s a)) else Q (some (.int 0)) (ob H p s) := by
  rw [c5]; simp only [inOk, inS, decide_eq_true_eq]
  by_cases e1 : a < 0 <;> by_cases e2 : a < sI s 0
  · simp +decide only [w5_0, w5_1, w5_2, w5_5, w5_8, w5_9, isO_put, Option.toList_some, List.cons_append, List.nil_append, true_and, and_true, false_and, not_true_eq_false, ↓reduceIte, c18, w18_0, w18_1, w18_16, w18_17, e1, e2]
  · simp +decide only [w5_0, w5_1, w5_2, w5_5, w5_8, w5_9, isO_put, Option.toList_some, List.cons_append, List.nil_append, true_and, and_true, false_and, and_false, not_true_eq_false, ↓reduceIte, c18, w18_0, w18_1, w18_16, w18_17, e1, e2]
  · have h3 := vix h0 e1 e2
    by_cases e3 : sA s 1 a.toNatClampNeg = 0 <;> simp +decide only [w5_0, w5_1, w5_2, w5_5, w5_10, w5_11, w5_14, w5_15, w5_16, w5_19, w5_20, w5_21, w5_22, w5_25, w5_26, w5_27, w5_28, w5_29, w5_32, w5_33, w5_34, w5_37, w5_38, w5_39, w5_42, w5_43, w5_44, w5_45, w5_46, w5_49, w5_50, w5_51, w5_54, w5_55, w5_56, w5_59, w5_60, w5_61, w5_62, w5_63, isO_put, sI_uA, Option.toList_some, List.cons_append, List.nil_append, true_and, and_true, and_false, not_false_eq_true, ↓reduceIte, g0, g2, g4, g5, g9, g10, g11, g22, ai1, aw1, ae1, as1, aw2, as2, aw6, as6, aw7, as7, aw8, as8, c18, w18_0, w18_1, w18_4, w18_5, w18_6, w18_9, w18_12, w18_13, w18_17, e1, e2, e3, h3]
  · simp +decide only [w5_0, w5_1, w5_2, w5_5, w5_8, w5_9, isO_put, Option.toList_some, List.cons_append, List.nil_append, true_and, and_true, false_and, and_false, not_false_eq_true, ↓reduceIte, g0, c18, w18_0, w18_1, w18_4, w18_5, w18_6, w18_9, w18_16, w18_17, e1, e2]
def rqOk (s : St) (a : Int32) : Bool := decide ((¬ a < 0 ∧ a < sI s 0) ∧ sA s 4 a.toNatClampNeg = 0 ∧ sA s 5 a.toNatClampNeg = 0)
def rqS (s : St) (a : Int32) : St := uA s 5 a.toNatClampNeg 1
theorem t6 (h0 : (sI s 0).toInt ≤ 128) : Cl (pj lw) 6 [.ref p, .int a] (ob H p s) Q ↔ if rqOk s a = true then Q (some (.int 1)) (ob H p (rqS s a)) else Q (some (.int 0)) (ob H p s) := by
  rw [c6]; simp only [rqOk, rqS, decide_eq_true_eq]
  by_cases e1 : a < 0 <;> by_cases e2 : a < sI s 0
  · simp +decide only [w6_0, w6_1, w6_2, w6_5, w6_8, w6_9, isO_put, Option.toList_some, List.cons_append, List.nil_append, true_and, and_true, false_and, not_true_eq_false, ↓reduceIte, c18, w18_0, w18_1, w18_16, w18_17, e1, e2]
  · simp +decide only [w6_0, w6_1, w6_2, w6_5, w6_8, w6_9, isO_put, Option.toList_some, List.cons_append, List.nil_append, true_and, and_true, false_and, and_false, not_true_eq_false, ↓reduceIte, c18, w18_0, w18_1, w18_16, w18_17, e1, e2]
  · have h3 : 0 ≤ a.toInt ∧ a.toInt < 128 := by rw [lt32] at e1 e2; simp only [Int32.reduceToInt] at e1; omega
    by_cases e3 : sA s 4 a.toNatClampNeg = 0 <;> by_cases e4 : sA s 5 a.toNatClampNeg = 0 <;> simp +decide only [w6_0, w6_1, w6_2, w6_5, w6_10, w6_11, w6_14, w6_15, w6_16, w6_19, w6_20, w6_23, w6_24, w6_25, w6_28, w6_29, w6_30, w6_31, w6_34, w6_35, w6_36, w6_37, w6_38, isO_put, Option.toList_some, List.cons_append, List.nil_append, true_and, and_true, and_false, or_true, not_false_eq_true, ↓reduceIte, g0, g7, g8, ai4, ain4, ae4, ai5, aw5, ain5, awn5, ae5, as5, ain4, ain5, awn5, c18, w18_0, w18_1, w18_4, w18_5, w18_6, w18_9, w18_12, w18_13, w18_17, e1, e2, e3, e4, h3]
  · simp +decide only [w6_0, w6_1, w6_2, w6_5, w6_8, w6_9, isO_put, Option.toList_some, List.cons_append, List.nil_append, true_and, and_true, false_and, and_false, not_false_eq_true, ↓reduceIte, g0, c18, w18_0, w18_1, w18_4, w18_5, w18_6, w18_9, w18_16, w18_17, e1, e2]
end C

section D
variable {lw : LW} {H : AH} {p q : Nat} {s s' : St} {Q : Option Value → AH → Prop} {a b c d : Int32} {h : Nat → Cel} {k n : Nat}
def gt (s : St) (t : Nat) (z a : Int32) : Int32 := if ¬ a < 0 ∧ a < sI s 0 then sA s t a.toNatClampNeg else z
theorem t8 (h0 : (sI s 0).toInt ≤ 128) : Cl (pj lw) 8 [.ref p, .int a] (ob H p s) Q ↔ Q (some (.int (gt s 1 (-1) a))) (ob H p s) := by
  rw [c8]; unfold gt
  by_cases e1 : a < 0 <;> by_cases e2 : a < sI s 0
  · simp +decide only [w8_0, w8_1, w8_2, w8_5, w8_17, w8_18, isO_put, Option.toList_some, List.cons_append, List.nil_append, true_and, and_true, not_true_eq_false, ↓reduceIte, c18, w18_0, w18_1, w18_16, w18_17, e1, e2]
  · simp +decide only [w8_0, w8_1, w8_2, w8_5, w8_17, w8_18, isO_put, Option.toList_some, List.cons_append, List.nil_append, true_and, and_true, and_false, not_true_eq_false, ↓reduceIte, c18, w18_0, w18_1, w18_16, w18_17, e1, e2]
  · have h3 : 0 ≤ a.toInt ∧ a.toInt < 128 := by rw [lt32] at e1 e2; simp only [Int32.reduceToInt] at e1; omega
    simp +decide only [w8_0, w8_1, w8_2, w8_5, w8_8, w8_9, w8_12, w8_13, w8_14, w8_18, isO_put, Option.toList_some, List.cons_append, List.nil_append, true_and, and_true, not_false_eq_true, ↓reduceIte, g0, g4, ai1, ae1, c18, w18_0, w18_1, w18_4, w18_5, w18_6, w18_9, w18_12, w18_13, w18_17, e1, e2, h3]
  · simp +decide only [w8_0, w8_1, w8_2, w8_5, w8_17, w8_18, isO_put, Option.toList_some, List.cons_append, List.nil_append, true_and, and_true, and_false, not_false_eq_true, ↓reduceIte, g0, c18, w18_0, w18_1, w18_4, w18_5, w18_6, w18_9, w18_16, w18_17, e1, e2]
theorem t10 (h0 : (sI s 0).toInt ≤ 128) : Cl (pj lw) 10 [.ref p, .int a] (ob H p s) Q ↔ Q (some (.int (gt s 3 (-1) a))) (ob H p s) := by
  rw [c10]; unfold gt
  by_cases e1 : a < 0 <;> by_cases e2 : a < sI s 0
  · simp +decide only [w10_0, w10_1, w10_2, w10_5, w10_17, w10_18, isO_put, Option.toList_some, List.cons_append, List.nil_append, true_and, and_true, not_true_eq_false, ↓reduceIte, c18, w18_0, w18_1, w18_16, w18_17, e1, e2]
  · simp +decide only [w10_0, w10_1, w10_2, w10_5, w10_17, w10_18, isO_put, Option.toList_some, List.cons_append, List.nil_append, true_and, and_true, and_false, not_true_eq_false, ↓reduceIte, c18, w18_0, w18_1, w18_16, w18_17, e1, e2]
  · have h3 : 0 ≤ a.toInt ∧ a.toInt < 128 := by rw [lt32] at e1 e2; simp only [Int32.reduceToInt] at e1; omega
    simp +decide only [w10_0, w10_1, w10_2, w10_5, w10_8, w10_9, w10_12, w10_13, w10_14, w10_18, isO_put, Option.toList_some, List.cons_append, List.nil_append, true_and, and_true, not_false_eq_true, ↓reduceIte, g0, g6, ai3, ae3, c18, w18_0, w18_1, w18_4, w18_5, w18_6, w18_9, w18_12, w18_13, w18_17, e1, e2, h3]
  · simp +decide only [w10_0, w10_1, w10_2, w10_5, w10_17, w10_18, isO_put, Option.toList_some, List.cons_append, List.nil_append, true_and, and_true, and_false, not_false_eq_true, ↓reduceIte, g0, c18, w18_0, w18_1, w18_4, w18_5, w18_6, w18_9, w18_16, w18_17, e1, e2]
theorem t12 (h0 : (sI s 0).toInt ≤ 128) : Cl (pj lw) 12 [.ref p, .int a] (ob H p s) Q ↔ Q (some (.int (gt s 6 (-2) a))) (ob H p s) := by
  rw [c12]; unfold gt
  by_cases e1 : a < 0 <;> by_cases e2 : a < sI s 0
  · simp +decide only [w12_0, w12_1, w12_2, w12_5, w12_17, w12_19, isO_put, Option.toList_some, List.cons_append, List.nil_append, true_and, and_true, not_true_eq_false, ↓reduceIte, c18, w18_0, w18_1, w18_16, w18_17, e1, e2]
  · simp +decide only [w12_0, w12_1, w12_2, w12_5, w12_17, w12_19, isO_put, Option.toList_some, List.cons_append, List.nil_append, true_and, and_true, and_false, not_true_eq_false, ↓reduceIte, c18, w18_0, w18_1, w18_16, w18_17, e1, e2]
  · have h3 : 0 ≤ a.toInt ∧ a.toInt < 128 := by rw [lt32] at e1 e2; simp only [Int32.reduceToInt] at e1; omega
    simp +decide only [w12_0, w12_1, w12_2, w12_5, w12_8, w12_9, w12_12, w12_13, w12_14, w12_19, isO_put, Option.toList_some, List.cons_append, List.nil_append, true_and, and_true, not_false_eq_true, ↓reduceIte, g0, g9, ai6, ae6, c18, w18_0, w18_1, w18_4, w18_5, w18_6, w18_9, w18_12, w18_13, w18_17, e1, e2, h3]
  · simp +decide only [w12_0, w12_1, w12_2, w12_5, w12_17, w12_19, isO_put, Option.toList_some, List.cons_append, List.nil_append, true_and, and_true, and_false, not_false_eq_true, ↓reduceIte, g0, c18, w18_0, w18_1, w18_4, w18_5, w18_6, w18_9, w18_16, w18_17, e1, e2]
theorem t13 (h0 : (sI s 0).toInt ≤ 128) : Cl (pj lw) 13 [.ref p, .int a] (ob H p s) Q ↔ Q (some (.int (gt s 7 (-1) a))) (ob H p s) := by
  rw [c13]; unfold gt
  by_cases e1 : a < 0 <;> by_cases e2 : a < sI s 0
  · simp +decide only [w13_0, w13_1, w13_2, w13_5, w13_17, w13_18, isO_put, Option.toList_some, List.cons_append, List.nil_append, true_and, and_true, not_true_eq_false, ↓reduceIte, c18, w18_0, w18_1, w18_16, w18_17, e1, e2]
  · simp +decide only [w13_0, w13_1, w13_2, w13_5, w13_17, w13_18, isO_put, Option.toList_some, List.cons_append, List.nil_append, true_and, and_true, and_false, not_true_eq_false, ↓reduceIte, c18, w18_0, w18_1, w18_16, w18_17, e1, e2]
  · have h3 : 0 ≤ a.toInt ∧ a.toInt < 128 := by rw [lt32] at e1 e2; simp only [Int32.reduceToInt] at e1; omega
    simp +decide only [w13_0, w13_1, w13_2, w13_5, w13_8, w13_9, w13_12, w13_13, w13_14, w13_18, isO_put, Option.toList_some, List.cons_append, List.nil_append, true_and, and_true, not_false_eq_true, ↓reduceIte, g0, g10, ai7, ae7, c18, w18_0, w18_1, w18_4, w18_5, w18_6, w18_9, w18_12, w18_13, w18_17, e1, e2, h3]
  · simp +decide only [w13_0, w13_1, w13_2, w13_5, w13_17, w13_18, isO_put, Option.toList_some, List.cons_append, List.nil_append, true_and, and_true, and_false, not_false_eq_true, ↓reduceIte, g0, c18, w18_0, w18_1, w18_4, w18_5, w18_6, w18_9, w18_16, w18_17, e1, e2]
theorem t14 (h0 : (sI s 0).toInt ≤ 128) : Cl (pj lw) 14 [.ref p, .int a] (ob H p s) Q ↔ Q (some (.int (gt s 8 (-1) a))) (ob H p s) := by
  rw [c14]; unfold gt
  by_cases e1 : a < 0 <;> by_cases e2 : a < sI s 0
  · simp +decide only [w14_0, w14_1, w14_2, w14_5, w14_17, w14_18, isO_put, Option.toList_some, List.cons_append, List.nil_append, true_and, and_true, not_true_eq_false, ↓reduceIte, c18, w18_0, w18_1, w18_16, w18_17, e1, e2]
  · simp +decide only [w14_0, w14_1, w14_2, w14_5, w14_17, w14_18, isO_put, Option.toList_some, List.cons_append, List.nil_append, true_and, and_true, and_false, not_true_eq_false, ↓reduceIte, c18, w18_0, w18_1, w18_16, w18_17, e1, e2]
  · have h3 : 0 ≤ a.toInt ∧ a.toInt < 128 := by rw [lt32] at e1 e2; simp only [Int32.reduceToInt] at e1; omega
    simp +decide only [w14_0, w14_1, w14_2, w14_5, w14_8, w14_9, w14_12, w14_13, w14_14, w14_18, isO_put, Option.toList_some, List.cons_append, List.nil_append, true_and, and_true, not_false_eq_true, ↓reduceIte, g0, g11, ai8, ae8, c18, w18_0, w18_1, w18_4, w18_5, w18_6, w18_9, w18_12, w18_13, w18_17, e1, e2, h3]
  · simp +decide only [w14_0, w14_1, w14_2, w14_5, w14_17, w14_18, isO_put, Option.toList_some, List.cons_append, List.nil_append, true_and, and_true, and_false, not_false_eq_true, ↓reduceIte, g0, c18, w18_0, w18_1, w18_4, w18_5, w18_6, w18_9, w18_16, w18_17, e1, e2]
end D

section E
variable {lw : LW} {H : AH} {p q : Nat} {s s' s1 : St} {Q : Option Value → AH → Prop} {a b c d : Int32} {h : Nat → Cel} {k n m : Nat}
def aeR (s : St) (a b w : Int32) : Int32 := if aeOk s a b w = true then sI s 18 else -1
def aeT (s : St) (a b w : Int32) : St := if aeOk s a b w = true then aeS s a b w else s
theorem t4' {w : Int32} (hE : 0 ≤ (sI s 18).toInt ∧ (sI s 18).toInt ≤ 256) : Cl (pj lw) 4 [.ref p, .int a, .int b, .int w] (ob H p s) Q ↔ Q (some (.int (aeR s a b w))) (ob H p (aeT s a b w)) := by
  rw [t4 hE]; unfold aeR aeT; by_cases e : aeOk s a b w = true <;> simp only [e, if_true, if_false]; rfl
theorem Iv_ae {w : Int32} (hI : Iv s) : Iv (aeT s a b w) := by
  unfold aeT; split
  · rename_i e
    simp only [aeOk, decide_eq_true_eq] at e
    obtain ⟨⟨⟨e1, e2⟩, e3, e4⟩, -, -, -, e9⟩ := e
    have hb := hI.1.2.1
    simp only [lt32, Int32.reduceToInt] at e1 e2 e3 e4 e9
    have h18 : (sI s 18 + 1).toInt = (sI s 18).toInt + 1 := ia (by simp only [Int32.reduceToInt]; omega) (by simp only [Int32.reduceToInt]; omega)
    refine ⟨⟨?_, ?_, ?_⟩, ?_⟩
    · simp +decide only [aeS, sI_uI, sI_uA, ↓reduceIte]; exact hI.1.1
    · simp +decide only [aeS, sI_uI, ↓reduceIte]; omega
    · intro k hk
      simp +decide only [aeS, sI_uI, sI_uA, sA_uI, sA_uA, true_and, false_and, ↓reduceIte] at hk ⊢
      rw [h18] at hk
      by_cases ek : k = (sI s 18).toNatClampNeg
      · simp only [ek, if_true]; omega
      · simp only [ek, if_false]; exact hI.1.2.2 k (by rw [cln] at ek; omega)
    · simp +decide only [aeS, sI_uI, sI_uA, ↓reduceIte]; exact hI.2
  · exact hI
def inR (s : St) (a : Int32) : Int32 := if inOk s a = true then 1 else 0
def inT (s : St) (a : Int32) : St := if inOk s a = true then inS s a else s
theorem t5' (h0 : (sI s 0).toInt ≤ 128) : Cl (pj lw) 5 [.ref p, .int a] (ob H p s) Q ↔ Q (some (.int (inR s a))) (ob H p (inT s a)) := by
  rw [t5 h0]; unfold inR inT; by_cases e : inOk s a = true <;> simp only [e, if_true, if_false]; rfl
theorem Iv_in (hI : Iv s) : Iv (inT s a) := by
  unfold inT; split
  · exact hI.of (by simp +decide only [inS, sI_uA]) (by simp +decide only [inS, sI_uA]) (by simp +decide only [inS, sI_uA]) (fun k => by simp +decide only [inS, sA_uA, false_and, ↓reduceIte]) (fun k => by simp +decide only [inS, sA_uA, false_and, ↓reduceIte])
  · exact hI
def rqR (s : St) (a : Int32) : Int32 := if rqOk s a = true then 1 else 0
def rqT (s : St) (a : Int32) : St := if rqOk s a = true then rqS s a else s
theorem t6' (h0 : (sI s 0).toInt ≤ 128) : Cl (pj lw) 6 [.ref p, .int a] (ob H p s) Q ↔ Q (some (.int (rqR s a))) (ob H p (rqT s a)) := by
  rw [t6 h0]; unfold rqR rqT; by_cases e : rqOk s a = true <;> simp only [e, if_true, if_false]; rfl
theorem Iv_rq (hI : Iv s) : Iv (rqT s a) := by
  unfold rqT; split
  · exact hI.of (by simp +decide only [rqS, sI_uA]) (by simp +decide only [rqS, sI_uA]) (by simp +decide only [rqS, sI_uA]) (fun k => by simp +decide only [rqS, sA_uA, false_and, ↓reduceIte]) (fun k => by simp +decide only [rqS, sA_uA, false_and, ↓reduceIte])
  · exact hI
theorem t2 : Cl (pj lw) 2 [.ref p, .int a] (ob H p s) Q ↔ Q none (ob H p (uI s 23 a)) := by
  rw [c2]; simp +decide only [w2_0, w2_1, w2_2, w2_5, isOw_put, okv_int, true_and, and_true, s23]
theorem Iv_sr (hI : Iv s) : Iv (uI s 23 a) := hI.of (by simp +decide only [sI_uI, ↓reduceIte]) (by simp +decide only [sI_uI, ↓reduceIte]) (by simp +decide only [sI_uI, ↓reduceIte]) (fun k => by simp +decide only [sA_uI]) (fun k => by simp +decide only [sA_uI])
theorem t3 : Cl (pj lw) 3 [.ref p, .int a] (ob H p s) Q ↔ Q (some (.int (cl 0 16 a))) (ob H p (uI s 19 (cl 0 16 a))) := by
  rw [c3]; simp +decide only [w3_0, w3_1, w3_2, w3_3, w3_4, w3_6, w3_9, w3_12, w3_13, w3_16, isO_put, isOw_put, okv_int, cs_nil, cs_ref, sI_uI, Option.toList_some, List.cons_append, List.nil_append, true_and, and_true, ↓reduceIte, Nat.reduceAdd, Int32.reduceAdd, Int64.reduceAdd, Nat.add_zero, Nat.le_refl, g19, s19, t17]
theorem Iv_sc (hI : Iv s) : Iv (uI s 19 (cl 0 16 a)) := by
  have hr := cl_rg (lo := 0) (hi := 16) a (by decide)
  refine ⟨hI.1.of (by simp +decide only [sI_uI, ↓reduceIte]) (by simp +decide only [sI_uI, ↓reduceIte]) (fun k => by simp +decide only [sA_uI]) (fun k => by simp +decide only [sA_uI]), ?_⟩
  simp +decide only [sI_uI, ↓reduceIte, Int32.reduceToInt] at hr ⊢; exact hr
theorem Iv_ini : Iv (ini0 a b c d) := by
  have hr := cl_rg (lo := 2) (hi := 128) a (by decide)
  simp only [Int32.reduceToInt] at hr
  refine ⟨⟨?_, ?_, ?_⟩, ?_⟩
  · simp +decide only [ini0, F1, sI_uI, sI_fA, ↓reduceIte]; exact hr
  · simp +decide only [ini0, F1, sI_uI, and_true, ↓reduceIte, Int32.reduceToInt]
  · intro k hk; simp +decide only [ini0, F1, sI_uI, ↓reduceIte, Int32.reduceToInt] at hk; exact absurd hk (by omega)
  · simp +decide only [ini0, F1, sI_uI, and_true, ↓reduceIte, Int32.reduceToInt]
end E

section F
variable {lw : LW} {p q c a len : Nat} {s s' s1 : St} {Q : Option Value → AH → Prop} {f : Nat → Int32}
theorem sc1 (ha : a < p) : (isA (ob (H1 c a len f) p s) a = true) = True ∧ alen (ob (H1 c a len f) p s) a = len ∧ (∀ i, (inA (ob (H1 c a len f) p s) a .int i = true) = (0 ≤ i.toInt ∧ i.toInt < len)) ∧ ∀ i, elt (ob (H1 c a len f) p s) a i = .int (f i.toNatClampNeg) := by
  unfold ob
  refine ⟨?_, ?_, fun i => ?_, fun i => ?_⟩
  · rw [isA_ot (Or.inl ha), isA_H1]; exact eq_self _ ▸ rfl
  · rw [alen_ot (Or.inl ha), alen_H1]
  · rw [inA_ot (Or.inl ha)]; exact propext inA_H1
  · rw [elt_ot (Or.inl ha), elt_H1]
theorem runF_1 : runF (cl 0 8 1).toInt.toNat s = dayS s := by rw [show (cl 0 8 1).toInt.toNat = 1 from by decide]; rfl
end F

section G
variable {s s' : St} {a b c d : Int32} {B : Int}
def nN (s : St) : Nat := (sI s 0).toInt.toNat
def J1 (s : St) : Prop := ∀ i, i < nN s → (sA s 1 i = 0 ∧ sA s 6 i = -2) ∨ ((sA s 1 i = 1 ∨ sA s 1 i = 2 ∨ sA s 1 i = 3) ∧ ¬ sA s 6 i = -2)
def J2 (s : St) : Prop := ∀ i, i < nN s → (sA s 4 i = 0 ∧ (sA s 5 i = 0 ∨ sA s 5 i = 1)) ∨ (sA s 4 i = 1 ∧ sA s 5 i = 0)
def J3 (s : St) (B : Int) : Prop := (sI s 21).toInt = cnt (fun i => decide (¬ sA s 4 i = 0)) 0 (nN s) ∧ (sI s 21).toInt ≤ (sI s 20).toInt ∧ (sI s 20).toInt ≤ B
def M9 (s : St) : Prop := ∀ i, i < nN s → ¬ sA s 9 i = 0 → ¬ sA s 6 i = -2
theorem nN_of (h0 : sI s' 0 = sI s 0) : nN s' = nN s := by unfold nN; rw [h0]
theorem J1.of (h : J1 s) (h0 : sI s' 0 = sI s 0) (h1 : ∀ i, sA s' 1 i = sA s 1 i) (h6 : ∀ i, sA s' 6 i = sA s 6 i) : J1 s' := fun i hi => by
  rw [h1, h6]; exact h i (by rw [← nN_of h0]; exact hi)
theorem J2.of (h : J2 s) (h0 : sI s' 0 = sI s 0) (h4 : ∀ i, sA s' 4 i = sA s 4 i) (h5 : ∀ i, sA s' 5 i = sA s 5 i) : J2 s' := fun i hi => by
  rw [h4, h5]; exact h i (by rw [← nN_of h0]; exact hi)
theorem J3.of (h : J3 s B) (h0 : sI s' 0 = sI s 0) (h20 : sI s' 20 = sI s 20) (h21 : sI s' 21 = sI s 21) (h4 : ∀ i, sA s' 4 i = sA s 4 i) : J3 s' B := by
  unfold J3; rw [h20, h21, nN_of h0]; simp only [h4]; exact h
theorem M9.of (h : M9 s) (h0 : sI s' 0 = sI s 0) (h9 : ∀ i, sA s' 9 i = sA s 9 i) (h6 : ∀ i, sA s' 6 i = sA s 6 i) : M9 s' := fun i hi => by
  rw [h9, h6]; exact h i (by rw [← nN_of h0]; exact hi)
theorem J3.mono {B' : Int} (h : J3 s B) (hb : B ≤ B') : J3 s B' := ⟨h.1, h.2.1, by have := h.2.2; omega⟩
theorem cnt_set {f g : Nat → Bool} {x : Nat} : ∀ (k j : Nat), j ≤ x → x < j + k → f x = false → g x = true → (∀ i, i ≠ x → g i = f i) → cnt g j k = cnt f j k + 1
  | 0, j, h1, h2, _, _, _ => by omega
  | k + 1, j, h1, h2, hf, hg, h => by
    simp only [cnt]
    by_cases e : j = x
    · subst e
      rw [hf, hg, cnt_congr k (j + 1) fun i a _ => h i (by omega)]; simp; omega
    · rw [h j e, cnt_set k (j + 1) (by omega) (by omega) hf hg h]; omega
theorem cnt_c4 {f : Nat → Int32} : ∀ (k j : Nat), (∀ i, j ≤ i → i < j + k → f i = 0 ∨ f i = 1 ∨ f i = 2 ∨ f i = 3) → cnt (fun i => decide (f i = 0)) j k + cnt (fun i => decide (f i = 1)) j k + cnt (fun i => decide (f i = 2)) j k + cnt (fun i => decide (f i = 3)) j k = k
  | 0, _, _ => rfl
  | k + 1, j, h => by
    have := cnt_c4 (f := f) k (j + 1) fun i a b => h i (by omega) (by omega)
    simp only [cnt]
    rcases h j (Nat.le_refl _) (by omega) with e | e | e | e <;> simp +decide only [e, decide_true, decide_false, ↓reduceIte] <;> omega
theorem cnt_nt {f g : Nat → Bool} : ∀ (k j : Nat), (∀ i, j ≤ i → i < j + k → f i = !g i) → cnt f j k + cnt g j k = k
  | 0, _, _ => rfl
  | k + 1, j, h => by
    have := cnt_nt (f := f) (g := g) k (j + 1) fun i a b => h i (by omega) (by omega)
    simp only [cnt]
    rw [h j (Nat.le_refl _) (by omega)]
    cases g j <;> simp <;> omega
theorem itF_ind {f : St → Nat → St} {I : St → Prop} : ∀ (m e : Nat) (s : St), (∀ s k, e ≤ k → k < e + m → I s → I (f s k)) → I s → I (itF f m e s)
  | 0, _, _, _, h => h
  | m + 1, e, s, hf, h => itF_ind m (e + 1) (f s e) (fun s k a b => hf s k (by omega) (by omega)) (hf s e (Nat.le_refl _) (by omega) h)
theorem sn_A' {t u : Nat} (ht : t ≠ 9 ∧ t ≠ 10) : ∀ (m e : Nat) (s : St), sA (itF snS m e s) t u = sA s t u
  | 0, _, _ => rfl
  | m + 1, e, s => by rw [itF, sn_A' ht, snS_A ht]
theorem sn_9' {u : Nat} : ∀ (m e : Nat) (s : St), sA (itF snS m e s) 9 u = if e ≤ u ∧ u < e + m then sA s 1 u else sA s 9 u
  | 0, e, s => by rw [if_neg (by omega)]; rfl
  | m + 1, e, s => by
    rw [itF, sn_9' m (e + 1)]
    have e1 : sA (snS s e) 1 u = sA s 1 u := snS_A (by decide)
    have e2 : sA (snS s e) 9 u = if u = e then sA s 1 u else sA s 9 u := by
      simp +decide only [snS, sA_uA, true_and, false_and, ↓reduceIte]
      by_cases h : u = e
      · rw [if_pos h, if_pos h, h]
      · rw [if_neg h, if_neg h]
    rw [e1, e2]
    by_cases h : u = e
    · subst h; rw [if_neg (by omega), if_pos rfl, if_pos (by omega)]
    · rw [if_neg h]
      by_cases h2 : e + 1 ≤ u ∧ u < e + 1 + m
      · rw [if_pos h2, if_pos (by omega)]
      · rw [if_neg h2, if_neg (by omega)]
theorem sn_I' {x : Nat} : ∀ (m e : Nat) (s : St), sI (itF snS m e s) x = sI s x
  | 0, _, _ => rfl
  | m + 1, e, s => by rw [itF, sn_I', snS_I]
theorem tr_J1 {e : Nat} (hE : EOk s) (he : e < (sI s 18).toInt.toNat) (h : J1 s ∧ M9 s) : J1 (trS s e) ∧ M9 (trS s e) := by
  obtain ⟨q1, q2⟩ := hE.2.2 e he
  have key : ∀ a b c : Int32, 0 ≤ a.toInt → J1 (tryI s a b c) ∧ M9 (tryI s a b c) := by
    intro a b c ha
    have na : ¬ a = -2 := fun g => by rw [g] at ha; exact absurd ha (by decide)
    unfold tryI
    split
    · refine ⟨fun i hi => ?_, fun i hi => ?_⟩
      · have hi' : i < nN s := by simpa only [nN, sI_uA, sI_uI, Nat.reduceEqDiff, ↓reduceIte] using hi
        simp +decide only [sA_uA, sA_uI, true_and, false_and, ↓reduceIte]
        by_cases e : i = b.toNatClampNeg
        · simp +decide only [e, na, ↓reduceIte]
        · simp only [e, if_false]; exact h.1 i hi'
      · have hi' : i < nN s := by simpa only [nN, sI_uA, sI_uI, Nat.reduceEqDiff, ↓reduceIte] using hi
        simp +decide only [sA_uA, sA_uI, true_and, false_and, ↓reduceIte]
        by_cases e : i = b.toNatClampNeg
        · simp only [e, if_true]; exact fun _ => na
        · simp only [e, if_false]; exact h.2 i hi'
    · exact ⟨h.1.of (by simp +decide only [sI_uI, ↓reduceIte]) (fun i => by rw [sA_uI]) (fun i => by rw [sA_uI]), h.2.of (by simp +decide only [sI_uI, ↓reduceIte]) (fun i => by rw [sA_uI]) (fun i => by rw [sA_uI])⟩
  unfold trS; split
  · exact key _ _ _ q1.1
  · split
    · exact key _ _ _ q2.1
    · exact h
theorem trF_J1 : ∀ (m e : Nat) (s : St), EOk s → e + m ≤ (sI s 18).toInt.toNat → J1 s ∧ M9 s → J1 (trF m e s) ∧ M9 (trF m e s)
  | 0, _, _, _, _, h => h
  | m + 1, e, s, hE, he, h => trF_J1 m (e + 1) (trS s e) (hE.of (trS_I (by decide)) (trS_I (by decide)) (fun k => trS_A (by decide)) (fun k => trS_A (by decide))) (by rw [trS_I (by decide)]; omega) (tr_J1 hE (by omega) h)
theorem trF_I {x : Nat} (hx : x ≠ 23) : ∀ (m e : Nat) (s : St), sI (trF m e s) x = sI s x
  | 0, _, _ => rfl
  | m + 1, e, s => by rw [trF, trF_I hx, trS_I hx]
theorem trF_A {t i : Nat} (ht : t ≠ 1 ∧ t ≠ 2 ∧ t ≠ 6 ∧ t ≠ 7 ∧ t ≠ 8) : ∀ (m e : Nat) (s : St), sA (trF m e s) t i = sA s t i
  | 0, _, _ => rfl
  | m + 1, e, s => by rw [trF, trF_A ht, trS_A ht]
theorem pg_J1 {e : Nat} (h : J1 s ∧ M9 s) (he : e < nN s) : J1 (pgS s e) ∧ M9 (pgS s e) := by
  have hM : M9 (pgS s e) := h.2.of pgS_I (fun i => pgS_A (by decide)) (fun i => pgS_A (by decide))
  refine ⟨fun i hi => ?_, hM⟩
  rw [nN_of pgS_I] at hi
  have h6 : sA (pgS s e) 6 i = sA s 6 i := pgS_A (by decide)
  rw [h6]
  by_cases e1 : i = e
  · subst e1
    unfold pgS
    by_cases c1 : sA s 9 i = 1
    · have q := h.2 i hi (by rw [c1]; decide)
      rw [if_pos c1]
      by_cases c2 : sA s 2 i - 1 = 0
      · rw [if_pos c2]; simp +decide only [sA_uA, true_and, false_and, ↓reduceIte, q]
      · rw [if_neg c2]; simp +decide only [sA_uA, true_and, false_and, ↓reduceIte]; exact h.1 i hi
    · rw [if_neg c1]
      by_cases c3 : sA s 9 i = 2
      · have q := h.2 i hi (by rw [c3]; decide)
        rw [if_pos c3]
        by_cases c2 : sA s 2 i - 1 = 0
        · rw [if_pos c2]; simp +decide only [sA_uA, true_and, false_and, ↓reduceIte, q]
        · rw [if_neg c2]; simp +decide only [sA_uA, true_and, false_and, ↓reduceIte]; exact h.1 i hi
      · rw [if_neg c3]; exact h.1 i hi
  · have e2 : sA (pgS s e) 1 i = sA s 1 i := by
      unfold pgS; (repeat' split) <;> simp +decide only [sA_uA, e1, and_false, false_and, ↓reduceIte]
    rw [e2]; exact h.1 i hi
def Sel (s : St) (c : Nat) (b : Int) : Prop := ∀ j, j < c → (0 ≤ (sA s 11 j).toInt ∧ (sA s 11 j).toInt < b) ∧ ¬ sA s 5 (sA s 11 j).toNatClampNeg = 0 ∧ ∀ k, k < j → (sA s 11 k).toInt < (sA s 11 j).toInt
theorem slF_sel (q : Nat) : ∀ (i c : Int32) (s : St), (sI s 0).toInt ≤ 128 → (sI s 19).toInt ≤ 16 → i.toInt = (sI s 0).toInt - q → 0 ≤ i.toInt → 0 ≤ c.toInt → c.toInt ≤ 16 → Sel s c.toNatClampNeg i.toInt →
    Sel (slF q i c s).2 (slF q i c s).1.toNatClampNeg (sI s 0).toInt := by
  induction q with
  | zero => intro i c s hn hc hi h0 hc0 hc1 hs; rw [show (sI s 0).toInt = i.toInt by omega]; exact hs
  | succ q ih =>
    intro i c s hn hc hi h0 hc0 hc1 hs
    have h2 : (i + 1).toInt = i.toInt + 1 := ia (by simp only [Int32.reduceToInt]; omega) (by simp only [Int32.reduceToInt]; omega)
    rw [slF]
    by_cases e1 : c < sI s 19
    · have hc2 : c.toInt < (sI s 19).toInt := lt32.mp e1
      have h6 : (c + 1).toInt = c.toInt + 1 := ia (by simp only [Int32.reduceToInt]; omega) (by simp only [Int32.reduceToInt]; omega)
      have h7 : (c + 1).toNatClampNeg = c.toNatClampNeg + 1 := by rw [cln, cln]; omega
      rw [if_pos e1]
      by_cases e2 : sA s 5 i.toNatClampNeg = 0
      · rw [if_pos e2]
        exact ih (i + 1) c s hn hc (by omega) (by omega) hc0 hc1 (fun j hj => ⟨⟨(hs j hj).1.1, by have := (hs j hj).1.2; omega⟩, (hs j hj).2⟩)
      · rw [if_neg e2]
        have := ih (i + 1) (c + 1) (uA s 11 c.toNatClampNeg i) (by rw [sI_uA]; exact hn) (by rw [sI_uA]; exact hc) (by rw [sI_uA]; omega) (by omega) (by omega) (by omega) (by
          intro j hj
          rw [h7] at hj
          have e5 : ∀ x, sA (uA s 11 c.toNatClampNeg i) 5 x = sA s 5 x := fun x => by rw [sA_uA, if_neg (fun g => absurd g.1 (by decide))]
          have e11 : ∀ x, x ≠ c.toNatClampNeg → sA (uA s 11 c.toNatClampNeg i) 11 x = sA s 11 x := fun x hx => by rw [sA_uA, if_neg (fun g => hx g.2)]
          have ec : sA (uA s 11 c.toNatClampNeg i) 11 c.toNatClampNeg = i := by rw [sA_uA, if_pos ⟨rfl, rfl⟩]
          by_cases ej : j = c.toNatClampNeg
          · subst ej
            rw [ec, e5]
            refine ⟨⟨h0, by omega⟩, e2, fun k hk => ?_⟩
            rw [e11 k (by omega)]; exact (hs k hk).1.2
          · rw [e11 j ej, e5]
            have hj' : j < c.toNatClampNeg := by omega
            refine ⟨⟨(hs j hj').1.1, by have := (hs j hj').1.2; omega⟩, (hs j hj').2.1, fun k hk => ?_⟩
            rw [e11 k (by omega)]; exact (hs j hj').2.2 k hk)
        rw [sI_uA] at this; exact this
    · rw [if_neg e1]
      intro j hj
      exact ⟨⟨(hs j hj).1.1, by have := (hs j hj).1.2; show (sA s 11 j).toInt < _; omega⟩, (hs j hj).2⟩
theorem tc_J2 {x : Int32} {e : Nat} (h : J2 s) : J2 (tcS x s e) := by
  unfold tcS
  split
  · exact h
  split
  · exact h
  split
  · rename_i c3
    intro i hi
    have hi' : i < nN s := by simpa only [nN, sI_uA] using hi
    simp +decide only [sA_uA, true_and, false_and, ↓reduceIte]
    by_cases e1 : i = (oth s x e).toNatClampNeg
    · subst e1; simp +decide only [c3, ↓reduceIte]
    · simp only [e1, if_false]; exact h i hi'
  · exact h
theorem to_J {x : Int32} (h2 : J2 s) (h3 : J3 s B) (hB : B ≤ 1000000) (hx : 0 ≤ x.toInt ∧ x.toInt < (sI s 0).toInt) (hd : sA s 4 x.toNatClampNeg = 0) :
    J2 (toS s x) ∧ J3 (toS s x) (B + 1) ∧ ∀ y, y ≠ x.toNatClampNeg → sA (toS s x) 4 y = sA s 4 y := by
  have hp := h3.1; have hq := h3.2.1; have hr := h3.2.2
  have e20 : (sI s 20 + 1).toInt = (sI s 20).toInt + 1 := ia (by simp only [Int32.reduceToInt]; omega) (by simp only [Int32.reduceToInt]; omega)
  have e21 : (sI s 21 + 1).toInt = (sI s 21).toInt + 1 := ia (by simp only [Int32.reduceToInt]; omega) (by simp only [Int32.reduceToInt]; omega)
  unfold toS
  split
  · have A2 : J2 (uA (uA (uI (uI (uA s 5 x.toNatClampNeg 0) 20 (sI s 20 + 1)) 21 (sI s 21 + 1)) 4 x.toNatClampNeg 1) 3 x.toNatClampNeg (sI s 3)) := by
      intro i hi
      have hi' : i < nN s := by simpa +decide only [nN, sI_uA, sI_uI, ↓reduceIte] using hi
      simp +decide only [sA_uA, sA_uI, true_and, false_and, ↓reduceIte]
      by_cases e1 : i = x.toNatClampNeg
      · simp +decide only [e1, ↓reduceIte]
      · simp only [e1, if_false]; exact h2 i hi'
    have A4 : ∀ y, sA (uA (uA (uI (uI (uA s 5 x.toNatClampNeg 0) 20 (sI s 20 + 1)) 21 (sI s 21 + 1)) 4 x.toNatClampNeg 1) 3 x.toNatClampNeg (sI s 3)) 4 y = if y = x.toNatClampNeg then 1 else sA s 4 y := fun y => by
      simp +decide only [sA_uA, sA_uI, true_and, false_and, ↓reduceIte]
    have A3 : J3 (uA (uA (uI (uI (uA s 5 x.toNatClampNeg 0) 20 (sI s 20 + 1)) 21 (sI s 21 + 1)) 4 x.toNatClampNeg 1) 3 x.toNatClampNeg (sI s 3)) (B + 1) := by
      unfold J3
      rw [cnt_set (f := fun i => decide (¬ sA s 4 i = 0)) (x := x.toNatClampNeg) _ _ (by omega) (by rw [nN_of (s := s) (by simp +decide only [sI_uA, sI_uI, ↓reduceIte]), cln]; unfold nN; omega) (by simp [hd]) (by rw [A4, if_pos rfl]; decide) (fun i hi => by rw [A4, if_neg hi])]
      rw [nN_of (s := s) (by simp +decide only [sI_uA, sI_uI, ↓reduceIte])]
      simp +decide only [sI_uA, sI_uI, ↓reduceIte, e20, e21]
      exact ⟨by omega, by omega, by omega⟩
    generalize uA (uA (uI (uI (uA s 5 x.toNatClampNeg 0) 20 (sI s 20 + 1)) 21 (sI s 21 + 1)) 4 x.toNatClampNeg 1) 3 x.toNatClampNeg (sI s 3) = u at *
    have I0 : ∀ y, sI (itF (tcS x) (sI s 18).toInt.toNat 0 u) y = sI u y := fun y => itF_inv (I := fun v => sI v y = sI u y) (fun v e g => by rw [tcS_I]; exact g) _ _ _ rfl
    have I4 : ∀ y, sA (itF (tcS x) (sI s 18).toInt.toNat 0 u) 4 y = sA u 4 y := fun y => itF_inv (I := fun v => sA v 4 y = sA u 4 y) (fun v e g => by rw [tcS_A (by decide)]; exact g) _ _ _ rfl
    exact ⟨itF_inv (fun v e g => tc_J2 g) _ _ _ A2, A3.of (I0 0) (I0 20) (I0 21) I4, fun y hy => by rw [I4, A4, if_neg hy]⟩
  · refine ⟨fun i hi => ?_, ?_, fun y hy => ?_⟩
    · have hi' : i < nN s := by simpa +decide only [nN, sI_uA, sI_uI, ↓reduceIte] using hi
      simp +decide only [sA_uA, sA_uI, true_and, false_and, ↓reduceIte]
      by_cases e1 : i = x.toNatClampNeg
      · subst e1; simp +decide only [hd, ↓reduceIte]
      · simp only [e1, if_false]; exact h2 i hi'
    · unfold J3
      rw [nN_of (s := s) (by simp +decide only [sI_uA, sI_uI, ↓reduceIte])]
      simp +decide only [sI_uA, sI_uI, sA_uA, sA_uI, false_and, ↓reduceIte, e20]
      exact ⟨hp, by omega, by omega⟩
    · simp +decide only [sA_uA, sA_uI, false_and, ↓reduceIte]
theorem ts_J {c : Nat} : ∀ (m e : Nat) (s : St) (B : Int), e + m = c → B + m ≤ 1000000 → J2 s → J3 s B → Sel s 0 0 → (∀ j, j < c → (0 ≤ (sA s 11 j).toInt ∧ (sA s 11 j).toInt < (sI s 0).toInt) ∧ ∀ k, k < j → (sA s 11 k).toInt < (sA s 11 j).toInt) → (∀ j, e ≤ j → j < c → sA s 4 (sA s 11 j).toNatClampNeg = 0) →
    J2 (itF tsS m e s) ∧ J3 (itF tsS m e s) (B + m)
  | 0, e, s, B, _, _, h2, h3, _, _, _ => ⟨h2, h3.mono (by omega)⟩
  | m + 1, e, s, B, he, hB, h2, h3, h4, h5, h6 => by
    obtain ⟨r1, r2, r3⟩ := to_J h2 h3 (by omega) (h5 e (by omega)).1 (h6 e (Nat.le_refl _) (by omega))
    have e11 : ∀ j, sA (toS s (sA s 11 e)) 11 j = sA s 11 j := fun j => toS_A (by decide)
    have := ts_J (c := c) m (e + 1) (toS s (sA s 11 e)) (B + 1) (by omega) (by omega) r1 r2 (fun j hj => absurd hj (by omega)) (fun j hj => by
      rw [e11, toS_I (by decide)]; exact ⟨(h5 j hj).1, fun k hk => by rw [e11]; exact (h5 j hj).2 k hk⟩) (fun j hj hk => by
      rw [e11, r3 _ (by have := (h5 j hk).2 e (by omega); have := (h5 e (by omega)).1; rw [cln, cln]; omega)]; exact h6 j (by omega) hk)
    rw [itF]
    refine ⟨this.1, this.2.mono (by omega)⟩
theorem te_J (hI : Iv s) (h2 : J2 s) (h3 : J3 s B) (hB : B + 16 ≤ 1000000) : J2 (teS s) ∧ J3 (teS s) (B + 16) := by
  obtain ⟨r1, r2, r3, r4, r5⟩ := slF_p (sI s 0).toInt.toNat 0 0 s hI.1.1.2 hI.2.2 (by simp only [Int32.reduceToInt]; have := hI.1.1; omega) (by decide) (by decide) (by decide) (fun j hj => absurd hj (by simp only [Int32.reduceToNatClampNeg]; omega))
  have r6 := slF_sel (sI s 0).toInt.toNat 0 0 s hI.1.1.2 hI.2.2 (by simp only [Int32.reduceToInt]; have := hI.1.1; omega) (by decide) (by decide) (by decide) (fun j hj => absurd hj (by simp only [Int32.reduceToNatClampNeg]; omega))
  unfold teS
  generalize slF (sI s 0).toInt.toNat 0 0 s = cw at *
  obtain ⟨c, w⟩ := cw
  simp only at *
  have a2 : J2 w := h2.of (r1 0) (fun i => r2 4 i (by decide)) (fun i => r2 5 i (by decide))
  have a3 : J3 w B := h3.of (r1 0) (r1 20) (r1 21) (fun i => r2 4 i (by decide))
  have := ts_J (c := c.toNatClampNeg) c.toNatClampNeg 0 w B (by omega) (by rw [cln]; omega) a2 a3 (fun j hj => absurd hj (by omega)) (fun j hj => by
    rw [r1 0]; exact ⟨(r6 j hj).1, (r6 j hj).2.2⟩) (fun j _ hj => by
    have q := a2 (sA w 11 j).toNatClampNeg (by unfold nN; rw [r1 0, cln]; have := (r6 j hj).1; omega)
    rcases q with q | q
    · exact q.1
    · exact absurd q.2 (r6 j hj).2.1)
  exact ⟨this.1, this.2.mono (by rw [cln]; omega)⟩
theorem te_J1 (h : J1 s) (hI : Iv s) : J1 (teS s) := by
  obtain ⟨r1, r2, -⟩ := slF_p (sI s 0).toInt.toNat 0 0 s hI.1.1.2 hI.2.2 (by simp only [Int32.reduceToInt]; have := hI.1.1; omega) (by decide) (by decide) (by decide) (fun j hj => absurd hj (by simp only [Int32.reduceToNatClampNeg]; omega))
  exact itF_inv (I := J1) (fun v e g => g.of (tsS_I (by decide)) (fun i => tsS_A (by decide)) (fun i => tsS_A (by decide))) _ _ _ (h.of (r1 0) (fun i => r2 1 i (by decide)) (fun i => r2 6 i (by decide)))
def J (s : St) (B : Int) : Prop := Iv s ∧ J1 s ∧ J2 s ∧ J3 s B
theorem day_J (h : J s B) (hB : B + 16 ≤ 1000000) : J (dayS s) (B + 16) := by
  obtain ⟨hI, h1, h2, h3⟩ := h
  have a0 : ∀ x, sI (d1 s) x = sI s x := fun x => sn_I' _ _ _
  have aA : ∀ t i, t ≠ 9 ∧ t ≠ 10 → sA (d1 s) t i = sA s t i := fun t i ht => sn_A' ht _ _ _
  have n1 : nN (d1 s) = nN s := nN_of (a0 0)
  have b1 : J1 (d1 s) := h1.of (a0 0) (fun i => aA 1 i (by decide)) (fun i => aA 6 i (by decide))
  have b9 : M9 (d1 s) := fun i hi => by
    rw [n1] at hi
    have e : sA (d1 s) 9 i = sA s 1 i := by unfold d1; rw [sn_9', if_pos ⟨by omega, by unfold nN at hi; omega⟩]
    rw [e, aA 6 i (by decide)]; intro g
    rcases h1 i hi with q | q
    · exact absurd q.1 g
    · exact q.2
  have b2 : J2 (d1 s) := h2.of (a0 0) (fun i => aA 4 i (by decide)) (fun i => aA 5 i (by decide))
  have b3 : J3 (d1 s) B := h3.of (a0 0) (a0 20) (a0 21) (fun i => aA 4 i (by decide))
  have t0 : ∀ x, x ≠ 23 → sI (d2 s) x = sI (d1 s) x := fun x hx => trF_I hx _ _ _
  have tA : ∀ t i, t ≠ 1 ∧ t ≠ 2 ∧ t ≠ 6 ∧ t ≠ 7 ∧ t ≠ 8 → sA (d2 s) t i = sA (d1 s) t i := fun t i ht => trF_A ht _ _ _
  have c1 : J1 (d2 s) ∧ M9 (d2 s) := trF_J1 _ _ _ (Iv_d1 hI).1 (by omega) ⟨b1, b9⟩
  have c2 : J2 (d2 s) := b2.of (t0 0 (by decide)) (fun i => tA 4 i (by decide)) (fun i => tA 5 i (by decide))
  have c3 : J3 (d2 s) B := b3.of (t0 0 (by decide)) (t0 20 (by decide)) (t0 21 (by decide)) (fun i => tA 4 i (by decide))
  have pI : ∀ x, sI (d3 s) x = sI (d2 s) x := fun x => itF_inv (I := fun v => sI v x = sI (d2 s) x) (fun v e g => by rw [pgS_I]; exact g) _ _ _ rfl
  have pA : ∀ t i, t ≠ 1 ∧ t ≠ 2 → sA (d3 s) t i = sA (d2 s) t i := fun t i ht => itF_inv (I := fun v => sA v t i = sA (d2 s) t i) (fun v e g => by rw [pgS_A ht]; exact g) _ _ _ rfl
  have e1 : (J1 (d3 s) ∧ M9 (d3 s)) ∧ nN (d3 s) = nN (d2 s) := itF_ind (I := fun v => (J1 v ∧ M9 v) ∧ nN v = nN (d2 s)) _ _ _ (fun v k _ hk g => ⟨pg_J1 g.1 (by rw [g.2]; unfold nN; omega), by rw [nN_of pgS_I]; exact g.2⟩) ⟨c1, rfl⟩
  have e2 : J2 (d3 s) := c2.of (pI 0) (fun i => pA 4 i (by decide)) (fun i => pA 5 i (by decide))
  have e3 : J3 (d3 s) B := c3.of (pI 0) (pI 20) (pI 21) (fun i => pA 4 i (by decide))
  have qI : ∀ x, sI (d4 s) x = sI (d3 s) x := fun x => itF_inv (I := fun v => sI v x = sI (d3 s) x) (fun v e g => by rw [qtS_I]; exact g) _ _ _ rfl
  have qA : ∀ t i, t ≠ 3 → sA (d4 s) t i = sA (d3 s) t i := fun t i ht => itF_inv (I := fun v => sA v t i = sA (d3 s) t i) (fun v e g => by rw [qtS_A ht]; exact g) _ _ _ rfl
  have f1 : J1 (d4 s) := e1.1.1.of (qI 0) (fun i => qA 1 i (by decide)) (fun i => qA 6 i (by decide))
  have f2 : J2 (d4 s) := e2.of (qI 0) (fun i => qA 4 i (by decide)) (fun i => qA 5 i (by decide))
  have f3 : J3 (d4 s) B := e3.of (qI 0) (qI 20) (qI 21) (fun i => qA 4 i (by decide))
  have g1 := te_J1 f1 (Iv_d4 hI)
  obtain ⟨g2, g3⟩ := te_J (Iv_d4 hI) f2 f3 hB
  have uI0 : ∀ x, x ≠ 22 → sI (dayS s) x = sI (teS (d4 s)) x := fun x hx => by unfold dayS; rw [sI_uI, if_neg hx]
  have uA0 : ∀ t i, sA (dayS s) t i = sA (teS (d4 s)) t i := fun t i => by unfold dayS; rw [sA_uI]
  exact ⟨Iv_day hI, g1.of (uI0 0 (by decide)) (uA0 1) (uA0 6), g2.of (uI0 0 (by decide)) (uA0 4) (uA0 5), g3.of (uI0 0 (by decide)) (uI0 20 (by decide)) (uI0 21 (by decide)) (uA0 4)⟩
theorem J.mono {B' : Int} (h : J s B) (hb : B ≤ B') : J s B' := ⟨h.1, h.2.1, h.2.2.1, h.2.2.2.mono hb⟩
theorem in_J (h : J s B) : J (inT s a) B := by
  refine ⟨Iv_in h.1, ?_⟩
  unfold inT; split
  · refine ⟨fun i hi => ?_, h.2.2.1.of (by simp only [inS, sI_uA]) (fun i => by simp +decide only [inS, sA_uA, false_and, ↓reduceIte]) (fun i => by simp +decide only [inS, sA_uA, false_and, ↓reduceIte]), h.2.2.2.of (by simp only [inS, sI_uA]) (by simp only [inS, sI_uA]) (by simp only [inS, sI_uA]) (fun i => by simp +decide only [inS, sA_uA, false_and, ↓reduceIte])⟩
    have hi' : i < nN s := by simpa only [inS, nN, sI_uA] using hi
    simp +decide only [inS, sA_uA, true_and, false_and, ↓reduceIte]
    by_cases e : i = a.toNatClampNeg
    · simp +decide only [e, ↓reduceIte]
    · simp only [e, if_false]; exact h.2.1 i hi'
  · exact h.2
theorem rq_J (h : J s B) : J (rqT s a) B := by
  refine ⟨Iv_rq h.1, ?_⟩
  unfold rqT; split
  · rename_i ok
    have ok' := of_decide_eq_true ok
    refine ⟨h.2.1.of (by simp only [rqS, sI_uA]) (fun i => by simp +decide only [rqS, sA_uA, false_and, ↓reduceIte]) (fun i => by simp +decide only [rqS, sA_uA, false_and, ↓reduceIte]), fun i hi => ?_, h.2.2.2.of (by simp only [rqS, sI_uA]) (by simp only [rqS, sI_uA]) (by simp only [rqS, sI_uA]) (fun i => by simp +decide only [rqS, sA_uA, false_and, ↓reduceIte])⟩
    have hi' : i < nN s := by simpa only [rqS, nN, sI_uA] using hi
    simp +decide only [rqS, sA_uA, true_and, false_and, ↓reduceIte]
    by_cases e : i = a.toNatClampNeg
    · subst e; simp +decide only [ok'.2.1, ↓reduceIte]
    · simp only [e, if_false]; exact h.2.2.1 i hi'
  · exact h.2
theorem ae_J (h : J s B) : J (aeT s a b c) B := by
  refine ⟨Iv_ae h.1, ?_⟩
  unfold aeT; split
  · exact ⟨h.2.1.of (by simp +decide only [aeS, sI_uA, sI_uI, ↓reduceIte]) (fun i => by simp +decide only [aeS, sA_uA, sA_uI, false_and, ↓reduceIte]) (fun i => by simp +decide only [aeS, sA_uA, sA_uI, false_and, ↓reduceIte]), h.2.2.1.of (by simp +decide only [aeS, sI_uA, sI_uI, ↓reduceIte]) (fun i => by simp +decide only [aeS, sA_uA, sA_uI, false_and, ↓reduceIte]) (fun i => by simp +decide only [aeS, sA_uA, sA_uI, false_and, ↓reduceIte]), h.2.2.2.of (by simp +decide only [aeS, sI_uA, sI_uI, ↓reduceIte]) (by simp +decide only [aeS, sI_uA, sI_uI, ↓reduceIte]) (by simp +decide only [aeS, sI_uA, sI_uI, ↓reduceIte]) (fun i => by simp +decide only [aeS, sA_uA, sA_uI, false_and, ↓reduceIte])⟩
  · exact h.2
end G

section Hh
variable {s s' : St} {a b c d : Int32} {B D : Int}
def adj (s : St) (i j : Nat) : Prop := ∃ e, e < (sI s 18).toInt.toNat ∧ (((sA s 12 e).toNatClampNeg = i ∧ (sA s 13 e).toNatClampNeg = j) ∨ ((sA s 12 e).toNatClampNeg = j ∧ (sA s 13 e).toNatClampNeg = i))
def Src (s : St) (i : Nat) : Prop := (sA s 6 i = -1 ∧ sA s 8 i = 0) ∨ ((0 ≤ (sA s 6 i).toInt ∧ (sA s 6 i).toInt < (sI s 0).toInt) ∧ (sA s 6 i).toNatClampNeg ≠ i ∧ (sA s 1 (sA s 6 i).toNatClampNeg = 2 ∨ sA s 1 (sA s 6 i).toNatClampNeg = 3) ∧ (sA s 8 i).toInt = (sA s 8 (sA s 6 i).toNatClampNeg).toInt + 1 ∧ 0 ≤ (sA s 8 (sA s 6 i).toNatClampNeg).toInt ∧ (sA s 7 (sA s 6 i).toNatClampNeg).toInt < (sA s 7 i).toInt ∧ adj s i (sA s 6 i).toNatClampNeg)
def Tm (s : St) (i : Nat) : Prop := (sA s 1 i = 1 ∧ (1 ≤ (sA s 2 i).toInt ∧ (sA s 2 i).toInt ≤ (sI s 1).toInt) ∧ sA s 4 i = 0) ∨ (sA s 1 i = 2 ∧ 1 ≤ (sA s 2 i).toInt ∧ (sA s 2 i).toInt ≤ (sI s 2).toInt) ∨ (sA s 1 i = 3 ∧ sA s 2 i = 0)
def PK (s : St) (D : Int) (i : Nat) : Prop :=
  (sA s 1 i = 0 ∧ sA s 2 i = 0 ∧ sA s 6 i = -2 ∧ sA s 7 i = -1 ∧ sA s 8 i = -1 ∧ sA s 4 i = 0) ∨
  (Tm s i ∧ (0 ≤ (sA s 7 i).toInt ∧ (sA s 7 i).toInt ≤ D) ∧ (0 ≤ (sA s 8 i).toInt ∧ (sA s 8 i).toInt ≤ (sA s 7 i).toInt) ∧ Src s i)
def KK (s : St) (D : Int) : Prop := ∀ i, i < nN s → PK s D i
def KQ (s : St) : Prop := ∀ i, i < nN s → 0 ≤ (sA s 3 i).toInt ∧ (sA s 3 i).toInt ≤ (sI s 3).toInt
def KCz (s : St) : Prop := (1 ≤ (sI s 1).toInt ∧ (sI s 1).toInt ≤ 8) ∧ (1 ≤ (sI s 2).toInt ∧ (sI s 2).toInt ≤ 8) ∧ (1 ≤ (sI s 3).toInt ∧ (sI s 3).toInt ≤ 16)
def Eq1 (s s' : St) : Prop := (sI s' 0 = sI s 0 ∧ sI s' 1 = sI s 1 ∧ sI s' 2 = sI s 2) ∧ (∀ i j, adj s i j → adj s' i j) ∧ (∀ i, sA s' 1 i = sA s 1 i) ∧ (∀ i, sA s' 2 i = sA s 2 i) ∧ (∀ i, sA s' 6 i = sA s 6 i) ∧ (∀ i, sA s' 7 i = sA s 7 i) ∧ (∀ i, sA s' 8 i = sA s 8 i)
theorem adj_of (h18 : sI s' 18 = sI s 18) (h12 : ∀ i, sA s' 12 i = sA s 12 i) (h13 : ∀ i, sA s' 13 i = sA s 13 i) : ∀ i j, adj s i j → adj s' i j := fun i j ⟨e, h, g⟩ => ⟨e, by rw [h18]; exact h, by rw [h12, h13]; exact g⟩
theorem Src.of {i : Nat} (h : Src s i) (q : Eq1 s s') : Src s' i := by
  obtain ⟨⟨q0, q1, q2⟩, qa, e1, e2, e6, e7, e8⟩ := q
  unfold Src at *; rw [e6, e8, e7, q0]; simp only [e1, e8, e7]
  rcases h with h | ⟨h1, h2, h3, h4, h5, h6, h7⟩
  · exact Or.inl h
  · exact Or.inr ⟨h1, h2, h3, h4, h5, h6, qa _ _ h7⟩
theorem PK.of {i : Nat} (h : PK s D i) (q : Eq1 s s') (h4 : (sA s 1 i = 0 ∨ sA s 1 i = 1) → sA s 4 i = 0 → sA s' 4 i = 0) : PK s' D i := by
  have q' := q
  obtain ⟨⟨q0, q1, q2⟩, qa, e1, e2, e6, e7, e8⟩ := q
  unfold PK; rw [e1, e2, e6, e7, e8]
  rcases h with ⟨a1, a2, a3, a4, a5, a6⟩ | ⟨a1, a2, a3, a4⟩
  · exact Or.inl ⟨a1, a2, a3, a4, a5, h4 (Or.inl a1) a6⟩
  · refine Or.inr ⟨?_, a2, a3, a4.of q'⟩
    unfold Tm; rw [e1, e2, q1, q2]
    rcases a1 with ⟨b1, b2, b3⟩ | b | b
    · exact Or.inl ⟨b1, b2, h4 (Or.inr b1) b3⟩
    · exact Or.inr (Or.inl b)
    · exact Or.inr (Or.inr b)
theorem PK.mono {i : Nat} {D' : Int} (h : PK s D i) (hd : D ≤ D') : PK s D' i := by
  rcases h with h | ⟨a1, a2, a3, a4⟩
  · exact Or.inl h
  · exact Or.inr ⟨a1, ⟨a2.1, by omega⟩, a3, a4⟩
theorem KK.of (h : KK s D) (q : Eq1 s s') (h4 : ∀ i, i < nN s → (sA s 1 i = 0 ∨ sA s 1 i = 1) → sA s 4 i = 0 → sA s' 4 i = 0) : KK s' D := fun i hi =>
  (h i (by rw [← nN_of q.1.1]; exact hi)).of q (h4 i (by rw [← nN_of q.1.1]; exact hi))
theorem KQ.of (h : KQ s) (h0 : sI s' 0 = sI s 0) (h3 : sI s' 3 = sI s 3) (hq : ∀ i, sA s' 3 i = sA s 3 i) : KQ s' := fun i hi => by
  rw [hq, h3]; exact h i (by rw [← nN_of h0]; exact hi)
theorem KCz.of (h : KCz s) (h1 : sI s' 1 = sI s 1) (h2 : sI s' 2 = sI s 2) (h3 : sI s' 3 = sI s 3) : KCz s' := by unfold KCz; rw [h1, h2, h3]; exact h
theorem PK.c4 {i : Nat} (h : PK s D i) : sA s 1 i = 0 ∨ sA s 1 i = 1 ∨ sA s 1 i = 2 ∨ sA s 1 i = 3 := by
  rcases h with h | ⟨(h | h | h), _⟩
  · exact Or.inl h.1
  · exact Or.inr (Or.inl h.1)
  · exact Or.inr (Or.inr (Or.inl h.1))
  · exact Or.inr (Or.inr (Or.inr h.1))
theorem i32_2 {x : Int32} (h : 0 ≤ x.toInt) : ¬ x = -2 ∧ ¬ x = -1 := ⟨fun g => by rw [g] at h; exact absurd h (by decide), fun g => by rw [g] at h; exact absurd h (by decide)⟩
theorem Src.upd {i x : Nat} (h : Src s i) (hx : sA s 1 x = 0) (hi : i ≠ x) (h0 : sI s' 0 = sI s 0) (ha : ∀ i j, adj s i j → adj s' i j) (h1 : ∀ y, y ≠ x → sA s' 1 y = sA s 1 y) (h6 : ∀ y, y ≠ x → sA s' 6 y = sA s 6 y) (h7 : ∀ y, y ≠ x → sA s' 7 y = sA s 7 y) (h8 : ∀ y, y ≠ x → sA s' 8 y = sA s 8 y) : Src s' i := by
  unfold Src at *; rw [h6 i hi, h7 i hi, h8 i hi, h0]
  rcases h with h | ⟨g1, g2, g3, g4, g5, g6, g7⟩
  · exact Or.inl h
  · have ne : (sA s 6 i).toNatClampNeg ≠ x := fun e => by rw [e, hx] at g3; rcases g3 with g | g <;> exact absurd g (by decide)
    rw [h1 _ ne, h7 _ ne, h8 _ ne]
    exact Or.inr ⟨g1, g2, g3, g4, g5, g6, ha _ _ g7⟩
theorem PK.upd {i x : Nat} (h : PK s D i) (hx : sA s 1 x = 0) (hi : i ≠ x) (h0 : sI s' 0 = sI s 0) (hl : sI s' 1 = sI s 1) (hf : sI s' 2 = sI s 2) (ha : ∀ i j, adj s i j → adj s' i j) (h1 : ∀ y, y ≠ x → sA s' 1 y = sA s 1 y) (h2 : ∀ y, y ≠ x → sA s' 2 y = sA s 2 y) (h4 : ∀ y, sA s' 4 y = sA s 4 y) (h6 : ∀ y, y ≠ x → sA s' 6 y = sA s 6 y) (h7 : ∀ y, y ≠ x → sA s' 7 y = sA s 7 y) (h8 : ∀ y, y ≠ x → sA s' 8 y = sA s 8 y) : PK s' D i := by
  unfold PK Tm at *; rw [h1 i hi, h2 i hi, h4 i, h6 i hi, h7 i hi, h8 i hi, hl, hf]
  rcases h with h | ⟨g1, g2, g3, g4⟩
  · exact Or.inl h
  · exact Or.inr ⟨g1, g2, g3, g4.upd hx hi h0 ha h1 h6 h7 h8⟩
def DK (s : St) (day : Int) (i : Nat) : Prop := PK s (day + 1) i ∧ (¬ sA s 9 i = 0 → (sA s 7 i).toInt ≤ day) ∧ ((sA s 7 i).toInt = day + 1 → sA s 10 i = 0 ∧ sA s 10 (sA s 6 i).toNatClampNeg = 0)
def TK (s : St) (day : Int) : Prop := ∀ i, i < nN s → DK s day i ∧ (¬ sA s 9 i = 0 → sA s 1 i = sA s 9 i) ∧ (sA s 9 i = 0 → sA s 1 i = 0 ∨ sA s 1 i = 1)
theorem try_TK {day : Int} {a b w : Int32} (h : TK s day) (hC : KCz s) (hd : (sI s 22).toInt = day) (hd2 : 0 ≤ day ∧ day ≤ 1000000) (ha : 0 ≤ a.toInt ∧ a.toInt < (sI s 0).toInt) (hb : 0 ≤ b.toInt ∧ b.toInt < (sI s 0).toInt) (hc : can s a.toNatClampNeg b.toNatClampNeg = true) (hadj : adj s b.toNatClampNeg a.toNatClampNeg) :
    TK (tryI s a b w) day ∧ ∀ i, i < nN s → (sA (tryI s a b w) 6 i = -1 ↔ sA s 6 i = -1) := by
  obtain ⟨c1, c2, c3, c4⟩ := of_decide_eq_true hc
  unfold tryI
  split
  · rename_i g
    have hB0 : sA s 1 b.toNatClampNeg = 0 := g.2
    have na : a.toNatClampNeg < nN s := by unfold nN; rw [cln]; omega
    have nb : b.toNatClampNeg < nN s := by unfold nN; rw [cln]; omega
    have hab : a.toNatClampNeg ≠ b.toNatClampNeg := fun e => by rw [e, c3] at c1; exact absurd c1 (by decide)
    obtain ⟨⟨a1, a2, a3⟩, a4, a5⟩ := h _ na
    have cA : sA s 1 a.toNatClampNeg = 2 := by rw [a4 (by rw [c1]; decide)]; exact c1
    have dA := a2 (by rw [c1]; decide)
    have gA : 0 ≤ (sA s 7 a.toNatClampNeg).toInt ∧ 0 ≤ (sA s 8 a.toNatClampNeg).toInt ∧ (sA s 8 a.toNatClampNeg).toInt ≤ (sA s 7 a.toNatClampNeg).toInt := by
      rcases a1 with q | ⟨_, q2, q3, _⟩
      · rw [q.1] at cA; exact absurd cA (by decide)
      · exact ⟨q2.1, q3.1, q3.2⟩
    have e22 : (sI s 22 + 1).toInt = day + 1 := by rw [ia (by simp only [Int32.reduceToInt]; omega) (by simp only [Int32.reduceToInt]; omega), hd]; rfl
    have e8 : (sA s 8 a.toNatClampNeg + 1).toInt = (sA s 8 a.toNatClampNeg).toInt + 1 := ia (by simp only [Int32.reduceToInt]; omega) (by simp only [Int32.reduceToInt]; omega)
    obtain ⟨na2, na1⟩ := i32_2 ha.1
    generalize hu : uA (uA (uA (uA (uA (uI s 23 (nxg (sI s 23))) 1 b.toNatClampNeg 1) 2 b.toNatClampNeg (sI s 1)) 6 b.toNatClampNeg a) 7 b.toNatClampNeg (sI s 22 + 1)) 8 b.toNatClampNeg (sA s 8 a.toNatClampNeg + 1) = u
    have uI' : ∀ x, x ≠ 23 → sI u x = sI s x := fun x hx => by rw [← hu]; simp only [sI_uA, sI_uI, hx, if_false]
    have u1 : ∀ y, y ≠ b.toNatClampNeg → sA u 1 y = sA s 1 y := fun y hy => by rw [← hu]; simp +decide only [sA_uA, sA_uI, hy, and_false, false_and, ↓reduceIte]
    have u2 : ∀ y, y ≠ b.toNatClampNeg → sA u 2 y = sA s 2 y := fun y hy => by rw [← hu]; simp +decide only [sA_uA, sA_uI, hy, and_false, false_and, ↓reduceIte]
    have u6 : ∀ y, y ≠ b.toNatClampNeg → sA u 6 y = sA s 6 y := fun y hy => by rw [← hu]; simp +decide only [sA_uA, sA_uI, hy, and_false, false_and, ↓reduceIte]
    have u7 : ∀ y, y ≠ b.toNatClampNeg → sA u 7 y = sA s 7 y := fun y hy => by rw [← hu]; simp +decide only [sA_uA, sA_uI, hy, and_false, false_and, ↓reduceIte]
    have u8 : ∀ y, y ≠ b.toNatClampNeg → sA u 8 y = sA s 8 y := fun y hy => by rw [← hu]; simp +decide only [sA_uA, sA_uI, hy, and_false, false_and, ↓reduceIte]
    have uo : ∀ t y, t ≠ 1 ∧ t ≠ 2 ∧ t ≠ 6 ∧ t ≠ 7 ∧ t ≠ 8 → sA u t y = sA s t y := fun t y ht => by rw [← hu]; simp only [sA_uA, sA_uI, ht.1, ht.2.1, ht.2.2.1, ht.2.2.2.1, ht.2.2.2.2, false_and, if_false]
    have v1 : sA u 1 b.toNatClampNeg = 1 := by rw [← hu]; simp +decide only [sA_uA, sA_uI, true_and, and_true, false_and, ↓reduceIte]
    have v2 : sA u 2 b.toNatClampNeg = sI s 1 := by rw [← hu]; simp +decide only [sA_uA, sA_uI, true_and, and_true, false_and, ↓reduceIte]
    have v6 : sA u 6 b.toNatClampNeg = a := by rw [← hu]; simp +decide only [sA_uA, sA_uI, true_and, and_true, false_and, ↓reduceIte]
    have v7 : sA u 7 b.toNatClampNeg = sI s 22 + 1 := by rw [← hu]; simp +decide only [sA_uA, sA_uI, true_and, and_true, false_and, ↓reduceIte]
    have v8 : sA u 8 b.toNatClampNeg = sA s 8 a.toNatClampNeg + 1 := by rw [← hu]; simp +decide only [sA_uA, sA_uI, true_and, and_true, false_and, ↓reduceIte]
    have ua : ∀ i j, adj s i j → adj u i j := adj_of (uI' 18 (by decide)) (fun i => uo 12 i (by decide)) (fun i => uo 13 i (by decide))
    have b4 : sA s 4 b.toNatClampNeg = 0 := by
      rcases (h _ nb).1.1 with q | ⟨q, _⟩
      · exact q.2.2.2.2.2
      · rcases q with q | q | q <;> (rw [hB0] at q; exact absurd q.1 (by decide))
    have nu : nN u = nN s := nN_of (uI' 0 (by decide))
    refine ⟨fun i hi => ?_, fun i hi => ?_⟩
    · rw [nu] at hi
      by_cases e : i = b.toNatClampNeg
      · subst e
        unfold DK PK Src Tm
        rw [v1, v2, v6, v7, v8, u1 _ hab, u7 _ hab, u8 _ hab, uo 4 _ (by decide), uo 9 _ (by decide), uo 10 _ (by decide), uo 10 _ (by decide), uI' 0 (by decide), uI' 1 (by decide), e22, e8, cA, b4, c3, c2, c4]
        refine ⟨⟨Or.inr ⟨Or.inl ⟨rfl, ⟨hC.1.1, by omega⟩, rfl⟩, ⟨by omega, by omega⟩, ⟨by omega, by omega⟩, Or.inr ⟨ha, hab, Or.inl rfl, rfl, gA.2.1, by omega, ua _ _ hadj⟩⟩, fun q => absurd rfl q, fun _ => ⟨rfl, rfl⟩⟩, fun q => absurd rfl q, fun _ => Or.inr rfl⟩
      · obtain ⟨⟨p1, p2, p3⟩, p4, p5⟩ := h i hi
        unfold DK
        rw [u1 i e, u6 i e, u7 i e, uo 9 _ (by decide), uo 10 _ (by decide), uo 10 _ (by decide)]
        exact ⟨⟨p1.upd hB0 e (uI' 0 (by decide)) (uI' 1 (by decide)) (uI' 2 (by decide)) ua u1 u2 (fun y => uo 4 y (by decide)) u6 u7 u8, p2, p3⟩, p4, p5⟩
    · by_cases e : i = b.toNatClampNeg
      · subst e; rw [v6]
        refine ⟨fun q => absurd q na1, fun q => ?_⟩
        rcases (h _ nb).1.1 with z | ⟨z, _⟩
        · rw [z.2.2.1] at q; exact absurd q (by decide)
        · rcases z with z | z | z <;> (rw [hB0] at z; exact absurd z.1 (by decide))
      · rw [u6 i e]
  · refine ⟨fun i hi => ?_, fun i hi => by rw [sA_uI]⟩
    obtain ⟨⟨p1, p2, p3⟩, p4, p5⟩ := h i (by simpa +decide only [nN, sI_uI, ↓reduceIte] using hi)
    unfold DK; simp only [sA_uI]
    exact ⟨⟨p1.of ⟨⟨by simp +decide only [sI_uI, ↓reduceIte], by simp +decide only [sI_uI, ↓reduceIte], by simp +decide only [sI_uI, ↓reduceIte]⟩, adj_of (by simp +decide only [sI_uI, ↓reduceIte]) (fun i => by rw [sA_uI]) (fun i => by rw [sA_uI]), fun i => by rw [sA_uI], fun i => by rw [sA_uI], fun i => by rw [sA_uI], fun i => by rw [sA_uI], fun i => by rw [sA_uI]⟩ (fun _ q => by rw [sA_uI]; exact q), p2, p3⟩, p4, p5⟩
theorem tr_TK {day : Int} {e : Nat} (hE : EOk s) (he : e < (sI s 18).toInt.toNat) (h : TK s day) (hC : KCz s) (hd : (sI s 22).toInt = day) (hd2 : 0 ≤ day ∧ day ≤ 1000000) :
    TK (trS s e) day ∧ ∀ i, i < nN s → (sA (trS s e) 6 i = -1 ↔ sA s 6 i = -1) := by
  obtain ⟨q1, q2⟩ := hE.2.2 e he
  unfold trS
  split
  · rename_i c1; exact try_TK h hC hd hd2 q1 q2 c1 ⟨e, he, Or.inr ⟨rfl, rfl⟩⟩
  · split
    · rename_i c1; exact try_TK h hC hd hd2 q2 q1 c1 ⟨e, he, Or.inl ⟨rfl, rfl⟩⟩
    · exact ⟨h, fun _ _ => Iff.rfl⟩
theorem trF_TK {day : Int} (hd2 : 0 ≤ day ∧ day ≤ 1000000) : ∀ (m e : Nat) (s : St), EOk s → e + m ≤ (sI s 18).toInt.toNat → TK s day → KCz s → (sI s 22).toInt = day → TK (trF m e s) day ∧ ∀ i, i < nN s → (sA (trF m e s) 6 i = -1 ↔ sA s 6 i = -1)
  | 0, _, _, _, _, h, _, _ => ⟨h, fun _ _ => Iff.rfl⟩
  | m + 1, e, s, hE, he, h, hC, hd => by
    obtain ⟨r1, r2⟩ := tr_TK (e := e) hE (by omega) h hC hd hd2
    have n1 : nN (trS s e) = nN s := nN_of (trS_I (by decide))
    obtain ⟨w1, w2⟩ := trF_TK hd2 m (e + 1) (trS s e) (hE.of (trS_I (by decide)) (trS_I (by decide)) (fun k => trS_A (by decide)) (fun k => trS_A (by decide))) (by rw [trS_I (by decide)]; omega) r1 (hC.of (trS_I (by decide)) (trS_I (by decide)) (trS_I (by decide))) (by rw [trS_I (by decide)]; exact hd)
    exact ⟨w1, fun i hi => (w2 i (by rw [n1]; exact hi)).trans (r2 i hi)⟩
def GK (s : St) (day : Int) (k : Nat) : Prop := ∀ i, i < nN s → DK s day i ∧ (k ≤ i → ¬ sA s 9 i = 0 → sA s 1 i = sA s 9 i) ∧ (sA s 9 i).toInt ≤ (sA s 1 i).toInt
theorem pg_o {t e i : Nat} (h : i ≠ e) : sA (pgS s e) t i = sA s t i := by
  unfold pgS; (repeat' split) <;> simp only [sA_uA, h, and_false, if_false]
theorem pg_GK {day : Int} {e : Nat} (h : GK s day e) (hC : KCz s) (he : e < nN s) : GK (pgS s e) day (e + 1) := by
  have e0 : ∀ x, sI (pgS s e) x = sI s x := fun x => pgS_I
  have eo : ∀ t i, t ≠ 1 ∧ t ≠ 2 → sA (pgS s e) t i = sA s t i := fun t i ht => pgS_A ht
  have ea : ∀ i j, adj s i j → adj (pgS s e) i j := adj_of (e0 18) (fun i => eo 12 i (by decide)) (fun i => eo 13 i (by decide))
  obtain ⟨⟨p1, p2, p3⟩, p4, p5⟩ := h e he
  have at_e : (sA s 1 e = 2 ∨ sA s 1 e = 3 → sA (pgS s e) 1 e = 2 ∨ sA (pgS s e) 1 e = 3) ∧ (sA s 9 e).toInt ≤ (sA (pgS s e) 1 e).toInt ∧ ((sA s 1 e = 0 ∧ pgS s e = s) ∨ (¬ sA s 1 e = 0 ∧ (Tm s e → Tm (pgS s e) e))) := by
    by_cases c1 : sA s 9 e = 1
    · have q := p4 (Nat.le_refl _) (by rw [c1]; decide)
      rw [c1] at q
      by_cases c2 : sA s 2 e - 1 = 0
      · have u1 : sA (pgS s e) 1 e = 2 := by unfold pgS; rw [if_pos c1, if_pos c2]; simp +decide only [sA_uA, and_true, true_and, false_and, ↓reduceIte]
        have u2 : sA (pgS s e) 2 e = sI s 2 := by unfold pgS; rw [if_pos c1, if_pos c2]; simp +decide only [sA_uA, and_true, true_and, false_and, ↓reduceIte]
        rw [u1, c1]
        refine ⟨fun _ => Or.inl rfl, by decide, Or.inr ⟨by rw [q]; decide, fun _ => Or.inr (Or.inl ⟨u1, by rw [u2]; exact hC.2.1.1, by rw [u2, e0]; omega⟩)⟩⟩
      · have u1 : sA (pgS s e) 1 e = sA s 1 e := by unfold pgS; rw [if_pos c1, if_neg c2]; simp +decide only [sA_uA, and_true, true_and, false_and, ↓reduceIte]
        have u2 : sA (pgS s e) 2 e = sA s 2 e - 1 := by unfold pgS; rw [if_pos c1, if_neg c2]; simp +decide only [sA_uA, and_true, true_and, false_and, ↓reduceIte]
        rw [u1, c1]
        refine ⟨id, by rw [q]; decide, Or.inr ⟨by rw [q]; decide, fun z => ?_⟩⟩
        rcases z with z | z | z
        · have hs : (sA s 2 e - 1).toInt = (sA s 2 e).toInt - 1 := isb (by simp only [Int32.reduceToInt]; omega) (by simp only [Int32.reduceToInt]; have := hC.1; omega)
          have nz : (sA s 2 e - 1).toInt ≠ 0 := fun g => c2 (by rw [eq32]; exact g)
          exact Or.inl ⟨by rw [u1]; exact z.1, by rw [u2, e0]; omega, by rw [eo 4 _ (by decide)]; exact z.2.2⟩
        · rw [q] at z; exact absurd z.1 (by decide)
        · rw [q] at z; exact absurd z.1 (by decide)
    · by_cases c3 : sA s 9 e = 2
      · have q := p4 (Nat.le_refl _) (by rw [c3]; decide)
        rw [c3] at q
        by_cases c2 : sA s 2 e - 1 = 0
        · have u1 : sA (pgS s e) 1 e = 3 := by unfold pgS; rw [if_neg c1, if_pos c3, if_pos c2]; simp +decide only [sA_uA, and_true, true_and, false_and, ↓reduceIte]
          have u2 : sA (pgS s e) 2 e = sA s 2 e - 1 := by unfold pgS; rw [if_neg c1, if_pos c3, if_pos c2]; simp +decide only [sA_uA, and_true, true_and, false_and, ↓reduceIte]
          rw [u1, c3]
          exact ⟨fun _ => Or.inr rfl, by decide, Or.inr ⟨by rw [q]; decide, fun _ => Or.inr (Or.inr ⟨u1, by rw [u2]; exact c2⟩)⟩⟩
        · have u1 : sA (pgS s e) 1 e = sA s 1 e := by unfold pgS; rw [if_neg c1, if_pos c3, if_neg c2]; simp +decide only [sA_uA, and_true, true_and, false_and, ↓reduceIte]
          have u2 : sA (pgS s e) 2 e = sA s 2 e - 1 := by unfold pgS; rw [if_neg c1, if_pos c3, if_neg c2]; simp +decide only [sA_uA, and_true, true_and, false_and, ↓reduceIte]
          rw [u1, c3]
          refine ⟨id, by rw [q]; decide, Or.inr ⟨by rw [q]; decide, fun z => ?_⟩⟩
          rcases z with z | z | z
          · rw [q] at z; exact absurd z.1 (by decide)
          · have hs : (sA s 2 e - 1).toInt = (sA s 2 e).toInt - 1 := isb (by simp only [Int32.reduceToInt]; omega) (by simp only [Int32.reduceToInt]; have := hC.2.1; omega)
            have nz : (sA s 2 e - 1).toInt ≠ 0 := fun g => c2 (by rw [eq32]; exact g)
            exact Or.inr (Or.inl ⟨by rw [u1]; exact z.1, by rw [u2]; omega, by rw [u2, e0]; omega⟩)
          · rw [q] at z; exact absurd z.1 (by decide)
      · have us : pgS s e = s := by unfold pgS; rw [if_neg c1, if_neg c3]
        rw [us]
        refine ⟨id, p5, ?_⟩
        by_cases z : sA s 1 e = 0
        · exact Or.inl ⟨z, rfl⟩
        · exact Or.inr ⟨z, id⟩
  have e1 : ∀ i, sA s 1 i = 2 ∨ sA s 1 i = 3 → sA (pgS s e) 1 i = 2 ∨ sA (pgS s e) 1 i = 3 := fun i q => by
    by_cases g : i = e
    · subst g; exact at_e.1 q
    · rw [pg_o g]; exact q
  have eS : ∀ i, Src s i → Src (pgS s e) i := fun i q => by
    unfold Src at *; rw [eo 6 _ (by decide), eo 7 _ (by decide), eo 8 _ (by decide), eo 8 _ (by decide), eo 7 _ (by decide), e0]
    rcases q with q | ⟨g1, g2, g3, g4, g5, g6, g7⟩
    · exact Or.inl q
    · exact Or.inr ⟨g1, g2, e1 _ g3, g4, g5, g6, ea _ _ g7⟩
  intro i hi
  rw [nN_of (e0 0)] at hi
  unfold DK
  rw [eo 7 _ (by decide), eo 6 _ (by decide), eo 9 _ (by decide), eo 10 _ (by decide), eo 10 _ (by decide)]
  by_cases g : i = e
  · subst g
    refine ⟨⟨?_, p2, p3⟩, fun z => absurd z (by omega), at_e.2.1⟩
    rcases at_e.2.2 with z | ⟨z1, z2⟩
    · rw [z.2]; exact p1
    · rcases p1 with y | ⟨y1, y2, y3, y4⟩
      · exact absurd y.1 z1
      · refine Or.inr ⟨z2 y1, ?_, ?_, eS _ y4⟩
        · rw [eo 7 _ (by decide)]; exact y2
        · rw [eo 7 _ (by decide), eo 8 _ (by decide)]; exact y3
  · obtain ⟨⟨r1, r2, r3⟩, r4, r5⟩ := h i hi
    rw [pg_o g]
    refine ⟨⟨?_, r2, r3⟩, fun z => r4 (by omega), r5⟩
    unfold PK Tm; rw [pg_o g, pg_o g, pg_o g, pg_o g, pg_o g, pg_o g, e0, e0]
    rcases r1 with y | ⟨y1, y2, y3, y4⟩
    · exact Or.inl y
    · exact Or.inr ⟨y1, y2, y3, eS _ y4⟩
theorem pgF_GK {day : Int} : ∀ (m e : Nat) (s : St), e + m ≤ nN s → GK s day e → KCz s → GK (itF pgS m e s) day (e + m)
  | 0, _, _, _, h, _ => h
  | m + 1, e, s, he, h, hC => by
    have := pgF_GK (day := day) m (e + 1) (pgS s e) (by rw [nN_of pgS_I]; omega) (pg_GK h hC (by omega)) (hC.of pgS_I pgS_I pgS_I)
    rw [show e + (m + 1) = e + 1 + m by omega]; exact this
theorem sn_10' {u : Nat} : ∀ (m e : Nat) (s : St), sA (itF snS m e s) 10 u = if e ≤ u ∧ u < e + m then (if 0 < sA s 3 u then 1 else 0) else sA s 10 u
  | 0, e, s => by rw [if_neg (by omega)]; rfl
  | m + 1, e, s => by
    rw [itF, sn_10' m (e + 1)]
    have e1 : sA (snS s e) 3 u = sA s 3 u := snS_A (by decide)
    have e2 : sA (snS s e) 10 u = if u = e then (if 0 < sA s 3 u then 1 else 0) else sA s 10 u := by
      simp +decide only [snS, sA_uA, true_and, false_and, ↓reduceIte]
      by_cases h : u = e
      · rw [if_pos h, if_pos h, h]
      · rw [if_neg h, if_neg h]
    rw [e1, e2]
    clear e1 e2
    generalize (if 0 < sA s 3 u then (1 : Int32) else 0) = v
    by_cases h : u = e
    · subst h; rw [if_neg (by omega), if_pos rfl, if_pos (by omega)]
    · rw [if_neg h]
      by_cases h2 : e + 1 ≤ u ∧ u < e + 1 + m
      · rw [if_pos h2, if_pos (by omega)]
      · rw [if_neg h2, if_neg (by omega)]
theorem qt_Q {e : Nat} (h : KQ s) : KQ (qtS s e) := by
  unfold qtS; split
  · rename_i c
    intro i hi
    have hi' : i < nN s := by simpa only [nN, sI_uA] using hi
    simp +decide only [sA_uA, sI_uA, true_and]
    by_cases g : i = e
    · subst g
      have q := h i hi'
      have c' := lt32.mp c
      simp only [Int32.reduceToInt] at c'
      have := rg32 (sI s 3)
      have hs : (sA s 3 i - 1).toInt = (sA s 3 i).toInt - 1 := isb (by simp only [Int32.reduceToInt]; omega) (by simp only [Int32.reduceToInt]; omega)
      rw [if_pos rfl]; omega
    · rw [if_neg g]; exact h i hi'
  · exact h
theorem tc_Q {x : Int32} {e : Nat} (h : KQ s) (hC : KCz s) : KQ (tcS x s e) ∧ KCz (tcS x s e) := by
  refine ⟨?_, hC.of tcS_I tcS_I tcS_I⟩
  unfold tcS; (repeat' split) <;> try exact h
  intro i hi
  have hi' : i < nN s := by simpa only [nN, sI_uA] using hi
  simp +decide only [sA_uA, sI_uA, true_and, false_and, ↓reduceIte]
  split
  · have := hC.2.2; omega
  · exact h i hi'
theorem to_Q {x : Int32} (h : KQ s) (hC : KCz s) : KQ (toS s x) ∧ KCz (toS s x) := by
  refine ⟨?_, hC.of (toS_I (by decide)) (toS_I (by decide)) (toS_I (by decide))⟩
  unfold toS; split
  · refine (itF_inv (I := fun v => KQ v ∧ KCz v) (fun v e g => tc_Q g.1 g.2) _ _ _ ⟨?_, hC.of (by simp +decide only [sI_uA, sI_uI, ↓reduceIte]) (by simp +decide only [sI_uA, sI_uI, ↓reduceIte]) (by simp +decide only [sI_uA, sI_uI, ↓reduceIte])⟩).1
    intro i hi
    have hi' : i < nN s := by simpa +decide only [nN, sI_uA, sI_uI, ↓reduceIte] using hi
    simp +decide only [sA_uA, sA_uI, sI_uA, sI_uI, true_and, false_and, ↓reduceIte]
    split
    · have := hC.2.2; omega
    · exact h i hi'
  · exact h.of (by simp +decide only [sI_uA, sI_uI, ↓reduceIte]) (by simp +decide only [sI_uA, sI_uI, ↓reduceIte]) (fun i => by simp +decide only [sA_uA, sA_uI, false_and, ↓reduceIte])
theorem to_4 {x : Int32} {y : Nat} : sA (toS s x) 4 y = if sA s 1 x.toNatClampNeg = 2 ∧ y = x.toNatClampNeg then 1 else sA s 4 y := by
  unfold toS; split
  · rename_i c
    rw [itF_inv (I := fun v => sA v 4 y = if y = x.toNatClampNeg then 1 else sA s 4 y) (fun v e g => by rw [tcS_A (by decide)]; exact g) _ _ _ (by simp +decide only [sA_uA, sA_uI, true_and, false_and, ↓reduceIte])]
    simp only [c, true_and]
  · rename_i c
    simp +decide only [c, sA_uA, sA_uI, true_and, false_and, ↓reduceIte]
theorem to_20 {x : Int32} : sI (toS s x) 20 = sI s 20 + 1 := by
  unfold toS; split
  · exact itF_inv (I := fun v => sI v 20 = sI s 20 + 1) (fun v e g => by rw [tcS_I]; exact g) _ _ _ (by simp +decide only [sI_uA, sI_uI, ↓reduceIte])
  · simp +decide only [sI_uA, sI_uI, ↓reduceIte]
theorem ts_20 : ∀ (m e : Nat) (s : St), 0 ≤ (sI s 20).toInt → (sI s 20).toInt + m ≤ 1000000 → (sI (itF tsS m e s) 20).toInt = (sI s 20).toInt + m
  | 0, _, _, _, _ => by rw [itF]; omega
  | m + 1, e, s, h0, h => by
    have e1 : (sI (tsS s e) 20).toInt = (sI s 20).toInt + 1 := by
      unfold tsS; rw [to_20, ia (by simp only [Int32.reduceToInt]; omega) (by simp only [Int32.reduceToInt]; omega)]; rfl
    rw [itF, ts_20 m (e + 1) (tsS s e) (by omega) (by omega), e1]; omega
theorem slF_c (q : Nat) : ∀ (i c : Int32) (s : St), 0 ≤ c.toInt → c.toInt ≤ (sI s 19).toInt → (slF q i c s).1.toInt ≤ (sI s 19).toInt := by
  induction q with
  | zero => intro i c s _ h; exact h
  | succ q ih =>
    intro i c s h0 h
    rw [slF]
    by_cases e1 : c < sI s 19
    · have hc2 : c.toInt < (sI s 19).toInt := lt32.mp e1
      have := rg32 (sI s 19)
      have h6 : (c + 1).toInt = c.toInt + 1 := ia (by simp only [Int32.reduceToInt]; omega) (by simp only [Int32.reduceToInt]; omega)
      rw [if_pos e1]; split
      · exact ih _ _ _ h0 h
      · have := ih (i + 1) (c + 1) (uA s 11 c.toNatClampNeg i) (by omega) (by rw [sI_uA]; omega)
        rw [sI_uA] at this; exact this
    · rw [if_neg e1]; exact h
theorem te_K (hI : Iv s) (hQ : KQ s) (hC : KCz s) (h20 : 0 ≤ (sI s 20).toInt ∧ (sI s 20).toInt + 16 ≤ 1000000) :
    (∀ x, x ≠ 20 ∧ x ≠ 21 → sI (teS s) x = sI s x) ∧ (∀ t i, t ≠ 3 ∧ t ≠ 4 ∧ t ≠ 5 ∧ t ≠ 11 → sA (teS s) t i = sA s t i) ∧ (∀ i, sA s 1 i = 0 ∨ sA s 1 i = 1 → sA (teS s) 4 i = sA s 4 i) ∧ KQ (teS s) ∧ (sI s 20).toInt ≤ (sI (teS s) 20).toInt ∧ (sI (teS s) 20).toInt ≤ (sI s 20).toInt + (sI s 19).toInt := by
  obtain ⟨r1, r2, r3, r4, r5⟩ := slF_p (sI s 0).toInt.toNat 0 0 s hI.1.1.2 hI.2.2 (by simp only [Int32.reduceToInt]; have := hI.1.1; omega) (by decide) (by decide) (by decide) (fun j hj => absurd hj (by simp only [Int32.reduceToNatClampNeg]; omega))
  have r6 := slF_c (sI s 0).toInt.toNat 0 0 s (by decide) (by simp only [Int32.reduceToInt]; exact hI.2.1)
  unfold teS
  generalize slF (sI s 0).toInt.toNat 0 0 s = cw at *
  obtain ⟨c, w⟩ := cw
  simp only at *
  have z := ts_20 c.toNatClampNeg 0 w (by rw [r1]; exact h20.1) (by rw [r1, cln]; omega)
  rw [r1, cln] at z
  refine ⟨fun x hx => ?_, fun t i ht => ?_, fun i hi => ?_, ?_, by rw [cln]; omega, by rw [cln]; omega⟩
  · rw [itF_inv (I := fun v => sI v x = sI w x) (fun v e g => by rw [tsS_I hx]; exact g) _ _ _ rfl, r1]
  · rw [itF_inv (I := fun v => sA v t i = sA w t i) (fun v e g => by rw [tsS_A ⟨ht.1, ht.2.1, ht.2.2.1⟩]; exact g) _ _ _ rfl, r2 _ _ ht.2.2.2]
  · have := itF_inv (f := tsS) (I := fun v => (∀ y, sA v 1 y = sA s 1 y) ∧ sA v 4 i = sA s 4 i) (fun v e g => ⟨fun y => by rw [tsS_A (by decide)]; exact g.1 y, by
      unfold tsS; rw [to_4, if_neg (fun q => ?_)]
      · exact g.2
      · rw [g.1, ← q.2] at q
        rcases hi with hi | hi <;> (rw [hi] at q; exact absurd q.1 (by decide))⟩) c.toNatClampNeg 0 w ⟨fun y => r2 1 y (by decide), r2 4 i (by decide)⟩
    exact this.2
  · exact (itF_inv (f := tsS) (I := fun v => KQ v ∧ KCz v) (fun v e g => to_Q g.1 g.2) _ _ _ ⟨hQ.of (r1 0) (r1 3) (fun i => r2 3 i (by decide)), hC.of (r1 1) (r1 2) (r1 3)⟩).1
def K (s : St) (B : Int) : Prop := J s B ∧ KK s (sI s 22).toInt ∧ KQ s ∧ KCz s ∧ 0 ≤ (sI s 22).toInt
def Day (s s' : St) : Prop := ((sI s' 22).toInt = (sI s 22).toInt + 1) ∧ (∀ x, x ≠ 20 ∧ x ≠ 21 ∧ x ≠ 22 ∧ x ≠ 23 → sI s' x = sI s x) ∧ (∀ i, sA s' 12 i = sA s 12 i) ∧ (∀ i, sA s' 13 i = sA s 13 i) ∧ (∀ i, sA s' 14 i = sA s 14 i) ∧ (∀ i, i < nN s → (sA s' 6 i = -1 ↔ sA s 6 i = -1)) ∧ (∀ i, i < nN s → (sA s 1 i).toInt ≤ (sA s' 1 i).toInt) ∧ (∀ i, i < nN s → (sA s' 7 i).toInt = (sI s 22).toInt + 1 → ¬ 0 < sA s 3 i ∧ (0 ≤ (sA s' 6 i).toInt → ¬ 0 < sA s 3 (sA s' 6 i).toNatClampNeg)) ∧ ((sI s 20).toInt ≤ (sI s' 20).toInt) ∧ ((sI s' 20).toInt ≤ (sI s 20).toInt + (sI s 19).toInt)
theorem Day.d22 {s s' : St} (h : Day s s') : (sI s' 22).toInt = (sI s 22).toInt + 1 := h.1
theorem Day.dI {s s' : St} (h : Day s s') : ∀ x, x ≠ 20 ∧ x ≠ 21 ∧ x ≠ 22 ∧ x ≠ 23 → sI s' x = sI s x := h.2.1
theorem Day.d12 {s s' : St} (h : Day s s') : ∀ i, sA s' 12 i = sA s 12 i := h.2.2.1
theorem Day.d13 {s s' : St} (h : Day s s') : ∀ i, sA s' 13 i = sA s 13 i := h.2.2.2.1
theorem Day.up {s s' : St} (h : Day s s') : ∀ i, i < nN s → (sA s 1 i).toInt ≤ (sA s' 1 i).toInt := h.2.2.2.2.2.2.1
theorem Day.new {s s' : St} (h : Day s s') : ∀ i, i < nN s → (sA s' 7 i).toInt = (sI s 22).toInt + 1 → ¬ 0 < sA s 3 i ∧ (0 ≤ (sA s' 6 i).toInt → ¬ 0 < sA s 3 (sA s' 6 i).toNatClampNeg) := h.2.2.2.2.2.2.2.1
theorem Day.t1 {s s' : St} (h : Day s s') : (sI s 20).toInt ≤ (sI s' 20).toInt := h.2.2.2.2.2.2.2.2.1
theorem Day.t2 {s s' : St} (h : Day s s') : (sI s' 20).toInt ≤ (sI s 20).toInt + (sI s 19).toInt := h.2.2.2.2.2.2.2.2.2
theorem day_K (h : K s B) (hB : B + 16 ≤ 1000000) (hD : (sI s 22).toInt ≤ 999999) : K (dayS s) (B + 16) ∧ Day s (dayS s) := by
  obtain ⟨hJ, hK, hQ, hC, h22⟩ := h
  have hI := hJ.1
  have hn : ∀ i, i < nN s → i < 0 + (sI s 0).toInt.toNat := fun i hi => by unfold nN at hi; omega
  have a0 : ∀ x, sI (d1 s) x = sI s x := fun x => sn_I' _ _ _
  have aA : ∀ t i, t ≠ 9 ∧ t ≠ 10 → sA (d1 s) t i = sA s t i := fun t i ht => sn_A' ht _ _ _
  have a9 : ∀ i, i < nN s → sA (d1 s) 9 i = sA s 1 i := fun i hi => by unfold d1; rw [sn_9', if_pos ⟨by omega, hn i hi⟩]
  have a10 : ∀ i, i < nN s → sA (d1 s) 10 i = if 0 < sA s 3 i then 1 else 0 := fun i hi => by unfold d1; rw [sn_10', if_pos ⟨by omega, hn i hi⟩]
  have n1 : nN (d1 s) = nN s := nN_of (a0 0)
  have q1 : Eq1 s (d1 s) := ⟨⟨a0 0, a0 1, a0 2⟩, adj_of (a0 18) (fun i => aA 12 i (by decide)) (fun i => aA 13 i (by decide)), fun i => aA 1 i (by decide), fun i => aA 2 i (by decide), fun i => aA 6 i (by decide), fun i => aA 7 i (by decide), fun i => aA 8 i (by decide)⟩
  have b1 : TK (d1 s) (sI s 22).toInt := fun i hi => by
    rw [n1] at hi
    have pk := hK i hi
    have dle : ¬ sA s 1 i = 0 → (sA s 7 i).toInt ≤ (sI s 22).toInt := fun g => by
      rcases pk with y | ⟨_, y, _⟩
      · exact absurd y.1 g
      · exact y.2
    have dne : ¬ (sA s 7 i).toInt = (sI s 22).toInt + 1 := fun g => by
      rcases pk with y | ⟨_, y, _⟩
      · rw [y.2.2.2.1] at g; simp only [Int32.reduceToInt] at g; omega
      · omega
    unfold DK; rw [a9 i hi, aA 1 i (by decide), aA 7 i (by decide)]
    exact ⟨⟨(pk.of q1 (fun _ g => by rw [aA 4 i (by decide)]; exact g)).mono (by omega), dle, fun g => absurd g dne⟩, fun _ => rfl, fun g => Or.inl g⟩
  have t0 : ∀ x, x ≠ 23 → sI (d2 s) x = sI (d1 s) x := fun x hx => trF_I hx _ _ _
  have tA : ∀ t i, t ≠ 1 ∧ t ≠ 2 ∧ t ≠ 6 ∧ t ≠ 7 ∧ t ≠ 8 → sA (d2 s) t i = sA (d1 s) t i := fun t i ht => trF_A ht _ _ _
  obtain ⟨c1, c2⟩ : TK (d2 s) (sI s 22).toInt ∧ ∀ i, i < nN (d1 s) → (sA (d2 s) 6 i = -1 ↔ sA (d1 s) 6 i = -1) := trF_TK (day := (sI s 22).toInt) ⟨h22, by omega⟩ (sI (d1 s) 18).toInt.toNat 0 (d1 s) (Iv_d1 hI).1 (by omega) b1 (hC.of (a0 1) (a0 2) (a0 3)) (by rw [a0])
  have n2 : nN (d2 s) = nN s := (nN_of (t0 0 (by decide))).trans n1
  have gk : GK (d2 s) (sI s 22).toInt 0 := fun i hi => by
    obtain ⟨p1, p2, p3⟩ := c1 i hi
    refine ⟨p1, fun _ => p2, ?_⟩
    by_cases z : sA (d2 s) 9 i = 0
    · rw [z]; rcases p3 z with g | g <;> rw [g] <;> decide
    · rw [p2 z]; omega
  have pI : ∀ x, sI (d3 s) x = sI (d2 s) x := fun x => itF_inv (I := fun v => sI v x = sI (d2 s) x) (fun v e g => by rw [pgS_I]; exact g) _ _ _ rfl
  have pA : ∀ t i, t ≠ 1 ∧ t ≠ 2 → sA (d3 s) t i = sA (d2 s) t i := fun t i ht => itF_inv (I := fun v => sA v t i = sA (d2 s) t i) (fun v e g => by rw [pgS_A ht]; exact g) _ _ _ rfl
  have e1 : GK (d3 s) (sI s 22).toInt (0 + (sI (d2 s) 0).toInt.toNat) := pgF_GK _ _ _ (by unfold nN; omega) gk (hC.of ((t0 1 (by decide)).trans (a0 1)) ((t0 2 (by decide)).trans (a0 2)) ((t0 3 (by decide)).trans (a0 3)))
  have n3 : nN (d3 s) = nN s := (nN_of (pI 0)).trans n2
  have qI : ∀ x, sI (d4 s) x = sI (d3 s) x := fun x => itF_inv (I := fun v => sI v x = sI (d3 s) x) (fun v e g => by rw [qtS_I]; exact g) _ _ _ rfl
  have qA : ∀ t i, t ≠ 3 → sA (d4 s) t i = sA (d3 s) t i := fun t i ht => itF_inv (I := fun v => sA v t i = sA (d3 s) t i) (fun v e g => by rw [qtS_A ht]; exact g) _ _ _ rfl
  have s3 : ∀ x, x ≠ 23 → sI (d4 s) x = sI s x := fun x hx => (qI x).trans ((pI x).trans ((t0 x hx).trans (a0 x)))
  have m3 : ∀ i, sA (d3 s) 3 i = sA s 3 i := fun i => (pA 3 i (by decide)).trans ((tA 3 i (by decide)).trans (aA 3 i (by decide)))
  have f3 : KQ (d4 s) := itF_inv (I := KQ) (fun v e g => qt_Q g) _ _ _ (hQ.of ((pI 0).trans ((t0 0 (by decide)).trans (a0 0))) ((pI 3).trans ((t0 3 (by decide)).trans (a0 3))) m3)
  have f4 : KCz (d4 s) := hC.of (s3 1 (by decide)) (s3 2 (by decide)) (s3 3 (by decide))
  have hp20 : 0 ≤ (sI s 20).toInt := by have := hJ.2.2.2.1; have := hJ.2.2.2.2.1; omega
  obtain ⟨g1, g2, g3, g4, g5, g6⟩ := te_K (Iv_d4 hI) f3 f4 (by rw [s3 20 (by decide)]; have := hJ.2.2.2.2.2; omega)
  have u22 : (sI (dayS s) 22).toInt = (sI s 22).toInt + 1 := by
    unfold dayS; rw [sI_uI, if_pos rfl, g1 22 (by decide), s3 22 (by decide), ia (by simp only [Int32.reduceToInt]; omega) (by simp only [Int32.reduceToInt]; omega)]; rfl
  have uI0 : ∀ x, x ≠ 22 → sI (dayS s) x = sI (teS (d4 s)) x := fun x hx => by unfold dayS; rw [sI_uI, if_neg hx]
  have uA0 : ∀ t i, sA (dayS s) t i = sA (teS (d4 s)) t i := fun t i => by unfold dayS; rw [sA_uI]
  have vI : ∀ x, x ≠ 20 ∧ x ≠ 21 ∧ x ≠ 22 ∧ x ≠ 23 → sI (dayS s) x = sI s x := fun x hx => (uI0 x hx.2.2.1).trans ((g1 x ⟨hx.1, hx.2.1⟩).trans (s3 x hx.2.2.2))
  have vA : ∀ t i, t ≠ 3 ∧ t ≠ 4 ∧ t ≠ 5 ∧ t ≠ 11 → sA (dayS s) t i = sA (d3 s) t i := fun t i ht => (uA0 t i).trans ((g2 t i ht).trans (qA t i ht.1))
  have wA : ∀ t i, t ≠ 3 ∧ t ≠ 4 ∧ t ≠ 5 ∧ t ≠ 11 ∧ t ≠ 1 ∧ t ≠ 2 ∧ t ≠ 6 ∧ t ≠ 7 ∧ t ≠ 8 ∧ t ≠ 9 ∧ t ≠ 10 → sA (dayS s) t i = sA s t i := fun t i ht => (vA t i ⟨ht.1, ht.2.1, ht.2.2.1, ht.2.2.2.1⟩).trans ((pA t i ⟨ht.2.2.2.2.1, ht.2.2.2.2.2.1⟩).trans ((tA t i ⟨ht.2.2.2.2.1, ht.2.2.2.2.2.1, ht.2.2.2.2.2.2.1, ht.2.2.2.2.2.2.2.1, ht.2.2.2.2.2.2.2.2.1⟩).trans (aA t i ⟨ht.2.2.2.2.2.2.2.2.2.1, ht.2.2.2.2.2.2.2.2.2.2⟩)))
  have n5 : nN (dayS s) = nN s := nN_of (vI 0 (by decide))
  have q5 : Eq1 (d3 s) (dayS s) := ⟨⟨(vI 0 (by decide)).trans ((s3 0 (by decide)).symm.trans (qI 0)), (vI 1 (by decide)).trans ((s3 1 (by decide)).symm.trans (qI 1)), (vI 2 (by decide)).trans ((s3 2 (by decide)).symm.trans (qI 2))⟩, adj_of ((vI 18 (by decide)).trans ((s3 18 (by decide)).symm.trans (qI 18))) (fun i => vA 12 i (by decide)) (fun i => vA 13 i (by decide)), fun i => vA 1 i (by decide), fun i => vA 2 i (by decide), fun i => vA 6 i (by decide), fun i => vA 7 i (by decide), fun i => vA 8 i (by decide)⟩
  refine ⟨⟨day_J hJ hB, fun i hi => ?_, g4.of (uI0 0 (by decide)) (uI0 3 (by decide)) (uA0 3), hC.of (vI 1 (by decide)) (vI 2 (by decide)) (vI 3 (by decide)), by omega⟩, u22, vI, fun i => wA 12 i (by decide), fun i => wA 13 i (by decide), fun i => wA 14 i (by decide), fun i hi => ?_, fun i hi => ?_, fun i hi hd => ?_, ?_, ?_⟩
  · rw [n5] at hi
    rw [u22]
    exact (e1 i (by rw [n3]; exact hi)).1.1.of q5 (fun z z4 => by rw [uA0, g3 i (by rw [qA 1 i (by decide)]; exact z), qA 4 i (by decide)]; exact z4)
  · rw [vA 6 i (by decide), pA 6 i (by decide)]
    exact (c2 i (by rw [n1]; exact hi)).trans (by rw [aA 6 i (by decide)])
  · have := (e1 i (by rw [n3]; exact hi)).2.2
    rw [pA 9 i (by decide), tA 9 i (by decide), a9 i hi] at this
    rw [vA 1 i (by decide)]; exact this
  · rw [vA 7 i (by decide)] at hd
    obtain ⟨x1, x2⟩ := (e1 i (by rw [n3]; exact hi)).1.2.2 hd
    have pk := (e1 i (by rw [n3]; exact hi)).1.1
    rw [vA 6 i (by decide)]
    have z10 : ∀ y, y < nN s → sA (d3 s) 10 y = 0 → ¬ 0 < sA s 3 y := fun y hy z => by
      rw [pA 10 y (by decide), tA 10 y (by decide), a10 y hy] at z
      intro g; rw [if_pos g] at z; exact absurd z (by decide)
    refine ⟨z10 i hi x1, fun z => z10 _ ?_ x2⟩
    rcases pk with y | ⟨_, _, _, y⟩
    · rw [y.2.2.1] at z; exact absurd z (by decide)
    · rcases y with y | y
      · rw [y.1] at z; exact absurd z (by decide)
      · have := y.1.2; rw [pI, t0 0 (by decide), a0] at this; unfold nN; rw [cln]; omega
  · rw [uI0 20 (by decide)]; rw [s3 20 (by decide)] at g5; exact g5
  · rw [uI0 20 (by decide)]; rw [s3 20 (by decide), s3 19 (by decide)] at g6; exact g6
end Hh

section Ii
variable {s s' : St} {a b c d : Int32} {B D : Int}
theorem K.mono {B' : Int} (h : K s B) (hb : B ≤ B') : K s B' := ⟨h.1.mono hb, h.2⟩
theorem K.I (h : K s B) (hI : Iv s') (hx : ∀ x, x ≠ 19 ∧ x ≠ 23 → sI s' x = sI s x) (hA : ∀ t i, sA s' t i = sA s t i) : K s' B := by
  have q : Eq1 s s' := ⟨⟨hx 0 (by decide), hx 1 (by decide), hx 2 (by decide)⟩, adj_of (hx 18 (by decide)) (hA 12) (hA 13), hA 1, hA 2, hA 6, hA 7, hA 8⟩
  refine ⟨⟨hI, h.1.2.1.of (hx 0 (by decide)) (hA 1) (hA 6), h.1.2.2.1.of (hx 0 (by decide)) (hA 4) (hA 5), h.1.2.2.2.of (hx 0 (by decide)) (hx 20 (by decide)) (hx 21 (by decide)) (hA 4)⟩, ?_, h.2.2.1.of (hx 0 (by decide)) (hx 3 (by decide)) (hA 3), h.2.2.2.1.of (hx 1 (by decide)) (hx 2 (by decide)) (hx 3 (by decide)), by rw [hx 22 (by decide)]; exact h.2.2.2.2⟩
  rw [hx 22 (by decide)]
  exact h.2.1.of q (fun i _ _ g => by rw [hA]; exact g)
theorem in_K (h : K s B) : K (inT s a) B := by
  refine ⟨in_J h.1, ?_⟩
  unfold inT; split
  · rename_i ok
    obtain ⟨⟨o1, o2⟩, o3⟩ := of_decide_eq_true ok
    have e22 : sI (inS s a) 22 = sI s 22 := by simp only [inS, sI_uA]
    have eI : ∀ x, sI (inS s a) x = sI s x := fun x => by simp only [inS, sI_uA]
    have eo : ∀ t y, y ≠ a.toNatClampNeg → sA (inS s a) t y = sA s t y := fun t y hy => by simp only [inS, sA_uA, hy, and_false, if_false]
    have e3 : ∀ y, sA (inS s a) 3 y = sA s 3 y := fun y => by simp +decide only [inS, sA_uA, false_and, ↓reduceIte]
    have e4 : ∀ y, sA (inS s a) 4 y = sA s 4 y := fun y => by simp +decide only [inS, sA_uA, false_and, ↓reduceIte]
    have ea : ∀ i j, adj s i j → adj (inS s a) i j := adj_of (eI 18) (fun i => by simp +decide only [inS, sA_uA, false_and, ↓reduceIte]) (fun i => by simp +decide only [inS, sA_uA, false_and, ↓reduceIte])
    refine ⟨fun i hi => ?_, h.2.2.1.of (eI 0) (eI 3) e3, h.2.2.2.1.of (eI 1) (eI 2) (eI 3), by rw [e22]; exact h.2.2.2.2⟩
    rw [nN_of (eI 0)] at hi
    rw [e22]
    by_cases g : i = a.toNatClampNeg
    · subst g
      refine Or.inr ⟨Or.inr (Or.inl ⟨?_, ?_, ?_⟩), ?_, ?_, Or.inl ⟨?_, ?_⟩⟩
      · simp +decide only [inS, sA_uA, true_and, false_and, ↓reduceIte]
      · simp +decide only [inS, sA_uA, true_and, false_and, ↓reduceIte]; exact h.2.2.2.1.2.1.1
      · simp +decide only [inS, sA_uA, sI_uA, true_and, false_and, ↓reduceIte]; omega
      · simp +decide only [inS, sA_uA, true_and, false_and, ↓reduceIte]; exact ⟨h.2.2.2.2, by omega⟩
      · simp +decide only [inS, sA_uA, true_and, false_and, ↓reduceIte, Int32.reduceToInt]; exact h.2.2.2.2
      · simp +decide only [inS, sA_uA, true_and, false_and, ↓reduceIte]
      · simp +decide only [inS, sA_uA, true_and, false_and, ↓reduceIte]
    · exact (h.2.1 i hi).upd o3 g (eI 0) (eI 1) (eI 2) ea (fun y hy => eo 1 y hy) (fun y hy => eo 2 y hy) e4 (fun y hy => eo 6 y hy) (fun y hy => eo 7 y hy) (fun y hy => eo 8 y hy)
  · exact h.2
theorem rq_K (h : K s B) : K (rqT s a) B := by
  refine ⟨rq_J h.1, ?_⟩
  unfold rqT; split
  · have eI : ∀ x, sI (rqS s a) x = sI s x := fun x => by simp only [rqS, sI_uA]
    have eA : ∀ t y, t ≠ 5 → sA (rqS s a) t y = sA s t y := fun t y ht => by simp only [rqS, sA_uA, ht, false_and, if_false]
    refine ⟨?_, h.2.2.1.of (eI 0) (eI 3) (fun i => eA 3 i (by decide)), h.2.2.2.1.of (eI 1) (eI 2) (eI 3), by rw [eI]; exact h.2.2.2.2⟩
    rw [eI]
    exact h.2.1.of ⟨⟨eI 0, eI 1, eI 2⟩, adj_of (eI 18) (fun i => eA 12 i (by decide)) (fun i => eA 13 i (by decide)), fun i => eA 1 i (by decide), fun i => eA 2 i (by decide), fun i => eA 6 i (by decide), fun i => eA 7 i (by decide), fun i => eA 8 i (by decide)⟩ (fun i _ _ g => by rw [eA 4 i (by decide)]; exact g)
  · exact h.2
theorem ae_adj {w : Int32} (h18 : 0 ≤ (sI s 18).toInt ∧ (sI s 18).toInt < 256) {i j : Nat} : adj (aeS s a b w) i j ↔ adj s i j ∨ ((a.toNatClampNeg = i ∧ b.toNatClampNeg = j) ∨ (a.toNatClampNeg = j ∧ b.toNatClampNeg = i)) := by
  have e18 : (sI (aeS s a b w) 18).toInt.toNat = (sI s 18).toInt.toNat + 1 := by
    simp +decide only [aeS, sI_uI, ↓reduceIte]; rw [ia (by simp only [Int32.reduceToInt]; omega) (by simp only [Int32.reduceToInt]; omega)]; simp only [Int32.reduceToInt]; omega
  have k12 : ∀ e, sA (aeS s a b w) 12 e = if e = (sI s 18).toInt.toNat then a else sA s 12 e := fun e => by simp +decide only [aeS, sA_uI, sA_uA, true_and, false_and, ↓reduceIte]; rw [cln]
  have k13 : ∀ e, sA (aeS s a b w) 13 e = if e = (sI s 18).toInt.toNat then b else sA s 13 e := fun e => by simp +decide only [aeS, sA_uI, sA_uA, true_and, false_and, ↓reduceIte]; rw [cln]
  unfold adj
  constructor
  · rintro ⟨e, h1, h2⟩
    rw [e18] at h1; rw [k12, k13] at h2
    by_cases g : e = (sI s 18).toInt.toNat
    · rw [if_pos g, if_pos g] at h2; exact Or.inr h2
    · rw [if_neg g, if_neg g] at h2; exact Or.inl ⟨e, by omega, h2⟩
  · rintro (⟨e, h1, h2⟩ | h)
    · exact ⟨e, by omega, by rw [k12, k13, if_neg (by omega), if_neg (by omega)]; exact h2⟩
    · exact ⟨(sI s 18).toInt.toNat, by omega, by rw [k12, k13, if_pos rfl, if_pos rfl]; exact h⟩
theorem exE_adj (hE : EOk s) (ha : 0 ≤ a.toInt) (hb : 0 ≤ b.toInt) : exE s a b (sI s 18).toInt.toNat 0 = true ↔ adj s a.toNatClampNeg b.toNatClampNeg := by
  have key : ∀ (q e : Nat), e + q ≤ (sI s 18).toInt.toNat → (exE s a b q e = true ↔ ∃ k, e ≤ k ∧ k < e + q ∧ (((sA s 12 k).toNatClampNeg = a.toNatClampNeg ∧ (sA s 13 k).toNatClampNeg = b.toNatClampNeg) ∨ ((sA s 12 k).toNatClampNeg = b.toNatClampNeg ∧ (sA s 13 k).toNatClampNeg = a.toNatClampNeg))) := by
    intro q; induction q with
    | zero => intro e _; rw [exE]; exact ⟨fun g => absurd g (by decide), fun ⟨k, h1, h2, _⟩ => absurd h2 (by omega)⟩
    | succ q ih =>
      intro e he
      have hk := hE.2.2 e (by omega)
      have nq : ∀ x y : Int32, 0 ≤ x.toInt → 0 ≤ y.toInt → (x = y ↔ x.toNatClampNeg = y.toNatClampNeg) := fun x y h1 h2 => by rw [eq32, cln, cln]; omega
      rw [exE]
      by_cases c : (sA s 12 e = a ∧ sA s 13 e = b) ∨ (sA s 12 e = b ∧ sA s 13 e = a)
      · rw [if_pos c]
        refine ⟨fun _ => ⟨e, by omega, by omega, ?_⟩, fun _ => rfl⟩
        rcases c with c | c
        · rw [c.1, c.2]; exact Or.inl ⟨rfl, rfl⟩
        · rw [c.1, c.2]; exact Or.inr ⟨rfl, rfl⟩
      · rw [if_neg c, ih (e + 1) (by omega)]
        constructor
        · rintro ⟨k, h1, h2, h3⟩; exact ⟨k, by omega, by omega, h3⟩
        · rintro ⟨k, h1, h2, h3⟩
          by_cases g : k = e
          · subst g
            rw [← nq _ _ hk.1.1 ha, ← nq _ _ hk.2.1 hb, ← nq _ _ hk.1.1 hb, ← nq _ _ hk.2.1 ha] at h3
            exact absurd h3 c
          · exact ⟨k, by omega, by omega, h3⟩
  rw [key _ 0 (by omega)]
  unfold adj
  constructor
  · rintro ⟨k, h1, h2, h3⟩; exact ⟨k, by omega, h3⟩
  · rintro ⟨k, h1, h3⟩; exact ⟨k, by omega, by omega, h3⟩
theorem ae_K {w : Int32} (h : K s B) : K (aeT s a b w) B := by
  refine ⟨ae_J h.1, ?_⟩
  unfold aeT; split
  · rename_i ok
    have ok' := of_decide_eq_true ok
    have hb := h.1.1.1.2.1
    have h18 : (sI s 18).toInt < 256 := by have := lt32.mp ok'.2.2.2.2; simp only [Int32.reduceToInt] at this; exact this
    have eI : ∀ x, x ≠ 18 → sI (aeS s a b w) x = sI s x := fun x hx => by simp only [aeS, sI_uI, sI_uA, hx, if_false]
    have eA : ∀ t y, t ≠ 12 ∧ t ≠ 13 ∧ t ≠ 14 → sA (aeS s a b w) t y = sA s t y := fun t y ht => by simp only [aeS, sA_uI, sA_uA, ht.1, ht.2.1, ht.2.2, false_and, if_false]
    refine ⟨?_, h.2.2.1.of (eI 0 (by decide)) (eI 3 (by decide)) (fun i => eA 3 i (by decide)), h.2.2.2.1.of (eI 1 (by decide)) (eI 2 (by decide)) (eI 3 (by decide)), by rw [eI 22 (by decide)]; exact h.2.2.2.2⟩
    rw [eI 22 (by decide)]
    exact h.2.1.of ⟨⟨eI 0 (by decide), eI 1 (by decide), eI 2 (by decide)⟩, fun i j g => (ae_adj ⟨hb.1, h18⟩).mpr (Or.inl g), fun i => eA 1 i (by decide), fun i => eA 2 i (by decide), fun i => eA 6 i (by decide), fun i => eA 7 i (by decide), fun i => eA 8 i (by decide)⟩ (fun i _ _ g => by rw [eA 4 i (by decide)]; exact g)
  · exact h.2
def Days (s s' : St) (m : Nat) : Prop := ((sI s' 22).toInt = (sI s 22).toInt + m) ∧ (∀ x, x ≠ 20 ∧ x ≠ 21 ∧ x ≠ 22 ∧ x ≠ 23 → sI s' x = sI s x) ∧ (∀ i, sA s' 12 i = sA s 12 i) ∧ (∀ i, sA s' 13 i = sA s 13 i) ∧ (∀ i, i < nN s → (sA s' 6 i = -1 ↔ sA s 6 i = -1)) ∧ ((sI s 20).toInt ≤ (sI s' 20).toInt) ∧ ((sI s' 20).toInt ≤ (sI s 20).toInt + (sI s 19).toInt * m)
theorem Days.d22 {s s' : St} {m : Nat} (h : Days s s' m) : (sI s' 22).toInt = (sI s 22).toInt + m := h.1
theorem Days.dI {s s' : St} {m : Nat} (h : Days s s' m) : ∀ x, x ≠ 20 ∧ x ≠ 21 ∧ x ≠ 22 ∧ x ≠ 23 → sI s' x = sI s x := h.2.1
theorem Days.d12 {s s' : St} {m : Nat} (h : Days s s' m) : ∀ i, sA s' 12 i = sA s 12 i := h.2.2.1
theorem Days.d13 {s s' : St} {m : Nat} (h : Days s s' m) : ∀ i, sA s' 13 i = sA s 13 i := h.2.2.2.1
theorem Days.t1 {s s' : St} {m : Nat} (h : Days s s' m) : (sI s 20).toInt ≤ (sI s' 20).toInt := h.2.2.2.2.2.1
theorem Days.t2 {s s' : St} {m : Nat} (h : Days s s' m) : (sI s' 20).toInt ≤ (sI s 20).toInt + (sI s 19).toInt * m := h.2.2.2.2.2.2
def sm (g : Nat → Nat) : Nat → Nat → Nat
  | _, 0 => 0
  | j, k + 1 => g j + sm g (j + 1) k
end Ii

end Jvm.JX.Pj
namespace Jvm.JX.Lw
open Jvm Jvm.ClassFile Sem Op Lib Jvm.JX Jvm.JX.Pj
def lr0 : List Row := [(0, .iconst 2, 1, 0), (1, .aload_n 0, 1, 0), (2, .iconst 0, 1, 0), (3, .invokestatic 8, 3, 102), (6, .bipush 7, 2, 0), (8, .invokestatic 14, 3, 103), (11, .iadd, 1, 0), (12, .istore_n 1, 1, 0), (13, .new 18, 3, 24), (16, .dup, 1, 0), (17, .iload_n 1, 1, 0), (18, .iconst 1, 1, 0), (19, .aload_n 0, 1, 0), (20, .iconst 1, 1, 0), (21, .invokestatic 8, 3, 102), (24, .iconst 4, 1, 0), (25, .invokestatic 14, 3, 103), (28, .iadd, 1, 0), (29, .iconst 1, 1, 0), (30, .aload_n 0, 1, 0), (31, .iconst 2, 1, 0), (32, .invokestatic 8, 3, 102), (35, .iconst 4, 1, 0), (36, .invokestatic 14, 3, 103), (39, .iadd, 1, 0), (40, .iconst 1, 1, 0), (41, .aload_n 0, 1, 0), (42, .iconst 3, 1, 0), (43, .invokestatic 8, 3, 102), (46, .bipush 8, 2, 0), (48, .invokestatic 14, 3, 103), (51, .iadd, 1, 0), (52, .invokespecial 20, 3, 1), (55, .astore_n 2, 1, 0), (56, .aload_n 2, 1, 0), (57, .aload_n 0, 1, 0), (58, .iconst 4, 1, 0), (59, .invokestatic 8, 3, 102), (62, .invokevirtual 23, 3, 2), (65, .aload_n 2, 1, 0), (66, .iconst 1, 1, 0), (67, .aload_n 0, 1, 0), (68, .iconst 5, 1, 0), (69, .invokestatic 8, 3, 102), (72, .iconst 4, 1, 0), (73, .invokestatic 14, 3, 103), (76, .iadd, 1, 0), (77, .invokevirtual 27, 3, 3), (80, .pop, 1, 0), (81, .lconst 0, 1, 0), (82, .lstore_n 3, 1, 0), (83, .iconst 0, 1, 0), (84, .istore 5, 2, 0), (86, .lconst 0, 1, 0), (87, .lstore 6, 2, 0), (89, .iconst 0, 1, 0), (90, .istore 8, 2, 0), (92, .bipush 6, 2, 0), (94, .istore 9, 2, 0), (96, .iconst 0, 1, 0), (97, .istore 10, 2, 0), (99, .iconst 0, 1, 0), (100, .istore 11, 2, 0), (102, .iload 11, 2, 0), (104, .iconst 4, 1, 0), (105, .if_icmp .ge 20, 3, 0), (108, .iload 10, 2, 0), (110, .aload_n 2, 1, 0), (111, .iload 11, 2, 0), (113, .invokevirtual 31, 3, 16), (116, .iadd, 1, 0), (117, .istore 10, 2, 0), (119, .iinc 11 1, 3, 0), (122, .goto (-20), 3, 0), (125, .iload 10, 2, 0), (127, .iload_n 1, 1, 0), (128, .if_icmp .eq 5, 3, 0), (131, .iconst 0, 1, 0), (132, .ireturn, 1, 0), (133, .aload_n 2, 1, 0), (134, .bipush 11, 2, 0), (136, .invokevirtual 31, 3, 16), (139, .iload_n 1, 1, 0), (140, .aload_n 2, 1, 0), (141, .iconst 0, 1, 0), (142, .invokevirtual 31, 3, 16), (145, .isub, 1, 0), (146, .if_icmp .eq 5, 3, 0), (149, .iconst 0, 1, 0), (150, .ireturn, 1, 0), (151, .aload_n 2, 1, 0), (152, .bipush 10, 2, 0), (154, .invokevirtual 31, 3, 16), (157, .iload 8, 2, 0), (159, .if_icmp .eq 5, 3, 0), (162, .iconst 0, 1, 0), (163, .ireturn, 1, 0), (164, .aload_n 2, 1, 0), (165, .bipush 9, 2, 0), (167, .invokevirtual 31, 3, 16), (170, .iload 5, 2, 0), (172, .if_icmp .eq 5, 3, 0), (175, .iconst 0, 1, 0), (176, .ireturn, 1, 0), (177, .lconst 0, 1, 0), (178, .lstore 11, 2, 0), (180, .iconst 0, 1, 0), (181, .istore 13, 2, 0), (183, .iload 13, 2, 0), (185, .iload_n 1, 1, 0), (186, .if_icmp .ge 324, 3, 0), (189, .aload_n 2, 1, 0), (190, .iload 13, 2, 0), (192, .invokevirtual 34, 3, 8), (195, .istore 14, 2, 0), (197, .iload 14, 2, 0), (199, .ifCond .lt 9, 3, 0), (202, .iload 14, 2, 0), (204, .iconst 3, 1, 0), (205, .if_icmp .le 5, 3, 0), (208, .iconst 0, 1, 0), (209, .ireturn, 1, 0), (210, .lload 6, 2, 0), (212, .iconst 2, 1, 0), (213, .iload 13, 2, 0), (215, .imul, 1, 0), (216, .lushr, 1, 0), (217, .ldc2_w 37, 3, 3), (220, .land, 1, 0), (221, .l2i, 1, 0), (222, .istore 15, 2, 0), (224, .iload 14, 2, 0), (226, .iload 15, 2, 0), (228, .if_icmp .ge 5, 3, 0), (231, .iconst 0, 1, 0), (232, .ireturn, 1, 0), (233, .lload 11, 2, 0), (235, .iload 14, 2, 0), (237, .i2l, 1, 0), (238, .iconst 2, 1, 0), (239, .iload 13, 2, 0), (241, .imul, 1, 0), (242, .lshl, 1, 0), (243, .lor, 1, 0), (244, .lstore 11, 2, 0), (246, .aload_n 2, 1, 0), (247, .iload 13, 2, 0), (249, .invokevirtual 39, 3, 12), (252, .istore 16, 2, 0), (254, .aload_n 2, 1, 0), (255, .iload 13, 2, 0), (257, .invokevirtual 42, 3, 14), (260, .istore 17, 2, 0), (262, .aload_n 2, 1, 0), (263, .iload 13, 2, 0), (265, .invokevirtual 45, 3, 13), (268, .istore 18, 2, 0), (270, .iload 16, 2, 0), (272, .bipush (-2), 2, 0), (274, .if_icmp .ne 7, 3, 0), (277, .iconst 1, 1, 0), (278, .goto 4, 3, 0), (281, .iconst 0, 1, 0), (282, .iload 14, 2, 0), (284, .ifCond .ne 7, 3, 0), (287, .iconst 1, 1, 0), (288, .goto 4, 3, 0), (291, .iconst 0, 1, 0), (292, .if_icmp .eq 5, 3, 0), (295, .iconst 0, 1, 0), (296, .ireturn, 1, 0), (297, .iload 16, 2, 0), (299, .iconst (-1), 1, 0), (300, .if_icmp .ne 7, 3, 0), (303, .iconst 1, 1, 0), (304, .goto 4, 3, 0), (307, .iconst 0, 1, 0), (308, .iload 17, 2, 0), (310, .ifCond .ne 7, 3, 0), (313, .iconst 1, 1, 0), (314, .goto 4, 3, 0), (317, .iconst 0, 1, 0), (318, .if_icmp .eq 5, 3, 0), (321, .iconst 0, 1, 0), (322, .ireturn, 1, 0), (323, .iload 16, 2, 0), (325, .bipush (-2), 2, 0), (327, .if_icmp .ne 17, 3, 0), (330, .iload 17, 2, 0), (332, .iconst (-1), 1, 0), (333, .if_icmp .ne 9, 3, 0), (336, .iload 18, 2, 0), (338, .iconst (-1), 1, 0), (339, .if_icmp .eq 120, 3, 0), (342, .iconst 0, 1, 0), (343, .ireturn, 1, 0), (344, .iload 16, 2, 0), (346, .iconst (-1), 1, 0), (347, .if_icmp .ne 17, 3, 0), (350, .iload 18, 2, 0), (352, .ifCond .lt 10, 3, 0), (355, .iload 18, 2, 0), (357, .iload 8, 2, 0), (359, .if_icmp .le 100, 3, 0), (362, .iconst 0, 1, 0), (363, .ireturn, 1, 0), (364, .iload 16, 2, 0), (366, .ifCond .lt 16, 3, 0), (369, .iload 16, 2, 0), (371, .iload_n 1, 1, 0), (372, .if_icmp .ge 10, 3, 0), (375, .iload 16, 2, 0), (377, .iload 13, 2, 0), (379, .if_icmp .ne 5, 3, 0), (382, .iconst 0, 1, 0), (383, .ireturn, 1, 0), (384, .lload_n 3, 1, 0), (385, .iload 13, 2, 0), (387, .iload 16, 2, 0), (389, .invokestatic 48, 3, 104), (392, .lushr, 1, 0), (393, .lconst 1, 1, 0), (394, .land, 1, 0), (395, .lconst 0, 1, 0), (396, .lcmp, 1, 0), (397, .ifCond .ne 5, 3, 0), (400, .iconst 0, 1, 0), (401, .ireturn, 1, 0), (402, .iload 17, 2, 0), (404, .aload_n 2, 1, 0), (405, .iload 16, 2, 0), (407, .invokevirtual 42, 3, 14), (410, .iconst 1, 1, 0), (411, .iadd, 1, 0), (412, .if_icmp .eq 5, 3, 0), (415, .iconst 0, 1, 0), (416, .ireturn, 1, 0), (417, .aload_n 2, 1, 0), (418, .iload 16, 2, 0), (420, .invokevirtual 45, 3, 13), (423, .iload 18, 2, 0), (425, .if_icmp .ge 10, 3, 0), (428, .iload 18, 2, 0), (430, .iload 8, 2, 0), (432, .if_icmp .le 5, 3, 0), (435, .iconst 0, 1, 0), (436, .ireturn, 1, 0), (437, .aload_n 2, 1, 0), (438, .iload 16, 2, 0), (440, .invokevirtual 34, 3, 8), (443, .istore 19, 2, 0), (445, .iload 19, 2, 0), (447, .iconst 2, 1, 0), (448, .if_icmp .eq 11, 3, 0), (451, .iload 19, 2, 0), (453, .iconst 3, 1, 0), (454, .if_icmp .eq 5, 3, 0), (457, .iconst 0, 1, 0), (458, .ireturn, 1, 0), (459, .iconst 0, 1, 0), (460, .istore 19, 2, 0), (462, .iconst 0, 1, 0), (463, .istore 20, 2, 0), (465, .iload 20, 2, 0), (467, .iload_n 1, 1, 0), (468, .if_icmp .ge 23, 3, 0), (471, .aload_n 2, 1, 0), (472, .iload 20, 2, 0), (474, .invokevirtual 39, 3, 12), (477, .iload 13, 2, 0), (479, .if_icmp .ne 6, 3, 0), (482, .iinc 19 1, 3, 0), (485, .iinc 20 1, 3, 0), (488, .goto (-23), 3, 0), (491, .aload_n 2, 1, 0), (492, .iload 13, 2, 0), (494, .invokevirtual 51, 3, 15), (497, .iload 19, 2, 0), (499, .if_icmp .eq 5, 3, 0), (502, .iconst 0, 1, 0), (503, .ireturn, 1, 0), (504, .iinc 13 1, 3, 0), (507, .goto (-324), 3, 0), (510, .lload 11, 2, 0), (512, .lstore 6, 2, 0), (514, .iload 9, 2, 0), (516, .aload_n 0, 1, 0), (517, .arraylength, 1, 0), (518, .if_icmp .ge 339, 3, 0), (521, .iload 9, 2, 0), (523, .sipush 246, 3, 0), (526, .if_icmp .lt 6, 3, 0), (529, .goto 328, 3, 0), (532, .aload_n 0, 1, 0), (533, .iload 9, 2, 0), (535, .invokestatic 8, 3, 102), (538, .bipush 8, 2, 0), (540, .invokestatic 14, 3, 103), (543, .istore 13, 2, 0), (545, .aload_n 0, 1, 0), (546, .iload 9, 2, 0), (548, .iconst 1, 1, 0), (549, .iadd, 1, 0), (550, .invokestatic 8, 3, 102), (553, .iload_n 1, 1, 0), (554, .invokestatic 14, 3, 103), (557, .istore 14, 2, 0), (559, .aload_n 0, 1, 0), (560, .iload 9, 2, 0), (562, .iconst 2, 1, 0), (563, .iadd, 1, 0), (564, .invokestatic 8, 3, 102), (567, .iload_n 1, 1, 0), (568, .invokestatic 14, 3, 103), (571, .istore 15, 2, 0), (573, .iload 13, 2, 0), (575, .iconst 2, 1, 0), (576, .if_icmp .ge 105, 3, 0), (579, .sipush 200, 3, 0), (582, .aload_n 0, 1, 0), (583, .iload 9, 2, 0), (585, .invokestatic 8, 3, 102), (588, .iconst 3, 1, 0), (589, .iushr, 1, 0), (590, .sipush 801, 3, 0), (593, .invokestatic 14, 3, 103), (596, .iadd, 1, 0), (597, .istore 16, 2, 0), (599, .aload_n 2, 1, 0), (600, .iload 14, 2, 0), (602, .iload 15, 2, 0), (604, .iload 16, 2, 0), (606, .invokevirtual 54, 3, 4), (609, .istore 17, 2, 0), (611, .iload 14, 2, 0), (613, .iload 15, 2, 0), (615, .if_icmp .eq 19, 3, 0), (618, .lload_n 3, 1, 0), (619, .iload 14, 2, 0), (621, .iload 15, 2, 0), (623, .invokestatic 48, 3, 104), (626, .lushr, 1, 0), (627, .lconst 1, 1, 0), (628, .land, 1, 0), (629, .lconst 0, 1, 0), (630, .lcmp, 1, 0), (631, .ifCond .eq 7, 3, 0), (634, .iconst 1, 1, 0), (635, .goto 4, 3, 0), (638, .iconst 0, 1, 0), (639, .istore 18, 2, 0), (641, .iload 18, 2, 0), (643, .ifCond .eq 11, 3, 0), (646, .iload 17, 2, 0), (648, .iconst (-1), 1, 0), (649, .if_icmp .eq 29, 3, 0), (652, .iconst 0, 1, 0), (653, .ireturn, 1, 0), (654, .iload 17, 2, 0), (656, .iload 5, 2, 0), (658, .if_icmp .eq 5, 3, 0), (661, .iconst 0, 1, 0), (662, .ireturn, 1, 0), (663, .lload_n 3, 1, 0), (664, .lconst 1, 1, 0), (665, .iload 14, 2, 0), (667, .iload 15, 2, 0), (669, .invokestatic 48, 3, 104), (672, .lshl, 1, 0), (673, .lor, 1, 0), (674, .lstore_n 3, 1, 0), (675, .iinc 5 1, 3, 0), (678, .goto 173, 3, 0), (681, .iload 13, 2, 0), (683, .iconst 2, 1, 0), (684, .if_icmp .ne 13, 3, 0), (687, .aload_n 2, 1, 0), (688, .iload 14, 2, 0), (690, .invokevirtual 58, 3, 5), (693, .pop, 1, 0), (694, .goto 157, 3, 0), (697, .iload 13, 2, 0), (699, .iconst 3, 1, 0), (700, .if_icmp .ne 13, 3, 0), (703, .aload_n 2, 1, 0), (704, .iload 14, 2, 0), (706, .invokevirtual 62, 3, 6), (709, .pop, 1, 0), (710, .goto 141, 3, 0), (713, .lconst 0, 1, 0), (714, .lstore 16, 2, 0), (716, .iconst 0, 1, 0), (717, .istore 18, 2, 0), (719, .iload 18, 2, 0), (721, .iload_n 1, 1, 0), (722, .if_icmp .ge 27, 3, 0), (725, .aload_n 2, 1, 0), (726, .iload 18, 2, 0), (728, .invokevirtual 65, 3, 10), (731, .ifCond .le 12, 3, 0), (734, .lload 16, 2, 0), (736, .lconst 1, 1, 0), (737, .iload 18, 2, 0), (739, .lshl, 1, 0), (740, .lor, 1, 0), (741, .lstore 16, 2, 0), (743, .iinc 18 1, 3, 0), (746, .goto (-27), 3, 0), (749, .aload_n 2, 1, 0), (750, .iconst 1, 1, 0), (751, .invokevirtual 68, 3, 7), (754, .istore 18, 2, 0), (756, .iinc 8 1, 3, 0), (759, .iload 18, 2, 0), (761, .iload 8, 2, 0), (763, .if_icmp .eq 5, 3, 0), (766, .iconst 0, 1, 0), (767, .ireturn, 1, 0), (768, .iconst 0, 1, 0), (769, .istore 19, 2, 0), (771, .iload 19, 2, 0), (773, .iload_n 1, 1, 0), (774, .if_icmp .ge 77, 3, 0), (777, .aload_n 2, 1, 0), (778, .iload 19, 2, 0), (780, .invokevirtual 45, 3, 13), (783, .iload 8, 2, 0), (785, .if_icmp .ne 60, 3, 0), (788, .aload_n 2, 1, 0), (789, .iload 19, 2, 0), (791, .invokevirtual 39, 3, 12), (794, .iconst (-1), 1, 0), (795, .if_icmp .eq 50, 3, 0), (798, .lload 16, 2, 0), (800, .iload 19, 2, 0), (802, .lushr, 1, 0), (803, .lconst 1, 1, 0), (804, .land, 1, 0), (805, .lconst 0, 1, 0), (806, .lcmp, 1, 0), (807, .ifCond .eq 5, 3, 0), (810, .iconst 0, 1, 0), (811, .ireturn, 1, 0), (812, .aload_n 2, 1, 0), (813, .iload 19, 2, 0), (815, .invokevirtual 39, 3, 12), (818, .istore 20, 2, 0), (820, .iload 20, 2, 0), (822, .ifCond .lt 23, 3, 0), (825, .iload 20, 2, 0), (827, .iload_n 1, 1, 0), (828, .if_icmp .ge 17, 3, 0), (831, .lload 16, 2, 0), (833, .iload 20, 2, 0), (835, .lushr, 1, 0), (836, .lconst 1, 1, 0), (837, .land, 1, 0), (838, .lconst 0, 1, 0), (839, .lcmp, 1, 0), (840, .ifCond .eq 5, 3, 0), (843, .iconst 0, 1, 0), (844, .ireturn, 1, 0), (845, .iinc 19 1, 3, 0), (848, .goto (-77), 3, 0), (851, .iinc 9 3, 3, 0), (854, .goto (-758), 3, 0), (857, .iconst 1, 1, 0), (858, .ireturn, 1, 0)]
def lr2 : List Row := [(0, .iload_n 1, 1, 0), (1, .aload_n 0, 1, 0), (2, .arraylength, 1, 0), (3, .if_icmp .ge 9, 3, 0), (6, .aload_n 0, 1, 0), (7, .iload_n 1, 1, 0), (8, .iaload, 1, 0), (9, .goto 4, 3, 0), (12, .iconst 0, 1, 0), (13, .ireturn, 1, 0)]
def lr3 : List Row := [(0, .iload_n 0, 1, 0), (1, .ldc 7, 2, 2147483647), (3, .iand, 1, 0), (4, .iload_n 1, 1, 0), (5, .irem, 1, 0), (6, .ireturn, 1, 0)]
def lr4 : List Row := [(0, .iload_n 0, 1, 0), (1, .iload_n 1, 1, 0), (2, .if_icmp .ge 7, 3, 0), (5, .iload_n 0, 1, 0), (6, .goto 4, 3, 0), (9, .iload_n 1, 1, 0), (10, .istore_n 2, 1, 0), (11, .iload_n 0, 1, 0), (12, .iload_n 1, 1, 0), (13, .if_icmp .ge 7, 3, 0), (16, .iload_n 1, 1, 0), (17, .goto 4, 3, 0), (20, .iload_n 0, 1, 0), (21, .istore_n 3, 1, 0), (22, .iload_n 2, 1, 0), (23, .bipush 8, 2, 0), (25, .imul, 1, 0), (26, .iload_n 3, 1, 0), (27, .iadd, 1, 0), (28, .ireturn, 1, 0)]
def lrows : List (List Row) := [lr0, [], lr2, lr3, lr4]
def linfo : List MInfo := [(1, 21, 9, some .boolean, { frames := 8, cells := 40, slots := 4480, locals := 192 }), (0, 0, 9, none, {}), (2, 2, 0, some .int, { frames := 0, cells := 0, slots := 0, locals := 0 }), (2, 2, 0, some .int, { frames := 0, cells := 0, slots := 0, locals := 0 }), (2, 4, 0, some .int, { frames := 0, cells := 0, slots := 0, locals := 0 })]
def lw : LW := (fun j pc => (lrows.getD j []).lookup pc, fun j => linfo.getD j (0, 0, 9, none, {}))
section LPc
variable {L : List Slot} {S : List Value} {k n : Nat} {H : AH} {Q : Option Value → AH → Prop}
theorem c100 {x0 : Nat} : Cl (pj lw) 100 [.ref x0] H Q ↔ W (pj lw) 100 0 [.val (.ref x0), .unset, .unset, .unset, .unset, .unset, .unset, .unset, .unset, .unset, .unset, .unset, .unset, .unset, .unset, .unset, .unset, .unset, .unset, .unset, .unset] [] 0 0 H Q := cl_unf rfl
theorem w100_0 : W (pj lw) 100 0 L S k n H Q ↔ W (pj lw) 100 1 L (.int 2 :: S) k n H Q := W_s (rfl : (pj lw).1 100 0 = some (.iconst 2, 1, 0)) rfl rfl rfl
theorem w100_1 {x : Nat} : W (pj lw) 100 1 (.val (.ref x) :: L) S k n H Q ↔ W (pj lw) 100 2 (.val (.ref x) :: L) (.ref x :: S) k n H Q := W_s (rfl : (pj lw).1 100 1 = some (.aload_n 0, 1, 0)) rfl rfl rfl
theorem w100_2 : W (pj lw) 100 2 L S k n H Q ↔ W (pj lw) 100 3 L (.int 0 :: S) k n H Q := W_s (rfl : (pj lw).1 100 2 = some (.iconst 0, 1, 0)) rfl rfl rfl
theorem w100_3 {x0 : Nat} {x1 : Int32} : W (pj lw) 100 3 L (.int x1 :: .ref x0 :: S) k n H Q ↔ (cs S + (2 + 11) + 0 ≤ 192 ∧ Cl (pj lw) 102 [.ref x0, .int x1] H (fun v H => W (pj lw) 100 6 L (v.toList ++ S) k n H Q)) := W_stat (a := [.ref x0, .int x1]) (rfl : (pj lw).1 100 3 = some (.invokestatic 8, 3, 102)) rfl rfl rfl (Nat.le_of_ble_eq_true rfl) (Nat.le_of_ble_eq_true rfl) ⟨rfl, rfl⟩
theorem w100_6 : W (pj lw) 100 6 L S k n H Q ↔ W (pj lw) 100 8 L (.int 7 :: S) k n H Q := W_s (rfl : (pj lw).1 100 6 = some (.bipush 7, 2, 0)) rfl rfl rfl
theorem w100_8 {x0 : Int32} {x1 : Int32} : W (pj lw) 100 8 L (.int x1 :: .int x0 :: S) k n H Q ↔ (cs S + (2 + 11) + 0 ≤ 192 ∧ Cl (pj lw) 103 [.int x0, .int x1] H (fun v H => W (pj lw) 100 11 L (v.toList ++ S) k n H Q)) := W_stat (a := [.int x0, .int x1]) (rfl : (pj lw).1 100 8 = some (.invokestatic 14, 3, 103)) rfl rfl rfl (Nat.le_of_ble_eq_true rfl) (Nat.le_of_ble_eq_true rfl) ⟨rfl, rfl⟩
theorem w100_11 {x y : Int32} : W (pj lw) 100 11 L (.int y :: .int x :: S) k n H Q ↔ W (pj lw) 100 12 L (.int (x + y) :: S) k n H Q := W_s (rfl : (pj lw).1 100 11 = some (.iadd, 1, 0)) rfl rfl rfl
theorem w100_12 {x : Int32} {l0 : Slot} : W (pj lw) 100 12 (l0 :: .unset :: L) (.int x :: S) k n H Q ↔ W (pj lw) 100 13 (l0 :: .val (.int x) :: L) S k n H Q := W_istn (rfl : (pj lw).1 100 12 = some (.istore_n 1, 1, 0)) rfl rfl
theorem w100_13 : W (pj lw) 100 13 L S k n H Q ↔ ((k + 1 ≤ 40 ∧ n + 24 ≤ 4480) ∧ W (pj lw) 100 16 L (.ref H.1 :: S) (k + 1) (n + 24) (mkO (pj lw) H) Q) := W_new' (rfl : (pj lw).1 100 13 = some (.new 18, 3, 24)) (by decide)
theorem w100_16 {x : Nat} : W (pj lw) 100 16 L (.ref x :: S) k n H Q ↔ W (pj lw) 100 17 L (.ref x :: .ref x :: S) k n H Q := W_s (rfl : (pj lw).1 100 16 = some (.dup, 1, 0)) rfl rfl rfl
theorem w100_17 {x : Int32} {l0 : Slot} : W (pj lw) 100 17 (l0 :: .val (.int x) :: L) S k n H Q ↔ W (pj lw) 100 18 (l0 :: .val (.int x) :: L) (.int x :: S) k n H Q := W_s (rfl : (pj lw).1 100 17 = some (.iload_n 1, 1, 0)) rfl rfl rfl
theorem w100_18 : W (pj lw) 100 18 L S k n H Q ↔ W (pj lw) 100 19 L (.int 1 :: S) k n H Q := W_s (rfl : (pj lw).1 100 18 = some (.iconst 1, 1, 0)) rfl rfl rfl
theorem w100_19 {x : Nat} : W (pj lw) 100 19 (.val (.ref x) :: L) S k n H Q ↔ W (pj lw) 100 20 (.val (.ref x) :: L) (.ref x :: S) k n H Q := W_s (rfl : (pj lw).1 100 19 = some (.aload_n 0, 1, 0)) rfl rfl rfl
theorem w100_20 : W (pj lw) 100 20 L S k n H Q ↔ W (pj lw) 100 21 L (.int 1 :: S) k n H Q := W_s (rfl : (pj lw).1 100 20 = some (.iconst 1, 1, 0)) rfl rfl rfl
theorem w100_21 {x0 : Nat} {x1 : Int32} : W (pj lw) 100 21 L (.int x1 :: .ref x0 :: S) k n H Q ↔ (cs S + (2 + 11) + 0 ≤ 192 ∧ Cl (pj lw) 102 [.ref x0, .int x1] H (fun v H => W (pj lw) 100 24 L (v.toList ++ S) k n H Q)) := W_stat (a := [.ref x0, .int x1]) (rfl : (pj lw).1 100 21 = some (.invokestatic 8, 3, 102)) rfl rfl rfl (Nat.le_of_ble_eq_true rfl) (Nat.le_of_ble_eq_true rfl) ⟨rfl, rfl⟩
theorem w100_24 : W (pj lw) 100 24 L S k n H Q ↔ W (pj lw) 100 25 L (.int 4 :: S) k n H Q := W_s (rfl : (pj lw).1 100 24 = some (.iconst 4, 1, 0)) rfl rfl rfl
theorem w100_25 {x0 : Int32} {x1 : Int32} : W (pj lw) 100 25 L (.int x1 :: .int x0 :: S) k n H Q ↔ (cs S + (2 + 11) + 0 ≤ 192 ∧ Cl (pj lw) 103 [.int x0, .int x1] H (fun v H => W (pj lw) 100 28 L (v.toList ++ S) k n H Q)) := W_stat (a := [.int x0, .int x1]) (rfl : (pj lw).1 100 25 = some (.invokestatic 14, 3, 103)) rfl rfl rfl (Nat.le_of_ble_eq_true rfl) (Nat.le_of_ble_eq_true rfl) ⟨rfl, rfl⟩
theorem w100_28 {x y : Int32} : W (pj lw) 100 28 L (.int y :: .int x :: S) k n H Q ↔ W (pj lw) 100 29 L (.int (x + y) :: S) k n H Q := W_s (rfl : (pj lw).1 100 28 = some (.iadd, 1, 0)) rfl rfl rfl
theorem w100_29 : W (pj lw) 100 29 L S k n H Q ↔ W (pj lw) 100 30 L (.int 1 :: S) k n H Q := W_s (rfl : (pj lw).1 100 29 = some (.iconst 1, 1, 0)) rfl rfl rfl
theorem w100_30 {x : Nat} : W (pj lw) 100 30 (.val (.ref x) :: L) S k n H Q ↔ W (pj lw) 100 31 (.val (.ref x) :: L) (.ref x :: S) k n H Q := W_s (rfl : (pj lw).1 100 30 = some (.aload_n 0, 1, 0)) rfl rfl rfl
theorem w100_31 : W (pj lw) 100 31 L S k n H Q ↔ W (pj lw) 100 32 L (.int 2 :: S) k n H Q := W_s (rfl : (pj lw).1 100 31 = some (.iconst 2, 1, 0)) rfl rfl rfl
theorem w100_32 {x0 : Nat} {x1 : Int32} : W (pj lw) 100 32 L (.int x1 :: .ref x0 :: S) k n H Q ↔ (cs S + (2 + 11) + 0 ≤ 192 ∧ Cl (pj lw) 102 [.ref x0, .int x1] H (fun v H => W (pj lw) 100 35 L (v.toList ++ S) k n H Q)) := W_stat (a := [.ref x0, .int x1]) (rfl : (pj lw).1 100 32 = some (.invokestatic 8, 3, 102)) rfl rfl rfl (Nat.le_of_ble_eq_true rfl) (Nat.le_of_ble_eq_true rfl) ⟨rfl, rfl⟩
theorem w100_35 : W (pj lw) 100 35 L S k n H Q ↔ W (pj lw) 100 36 L (.int 4 :: S) k n H Q := W_s (rfl : (pj lw).1 100 35 = some (.iconst 4, 1, 0)) rfl rfl rfl
theorem w100_36 {x0 : Int32} {x1 : Int32} : W (pj lw) 100 36 L (.int x1 :: .int x0 :: S) k n H Q ↔ (cs S + (2 + 11) + 0 ≤ 192 ∧ Cl (pj lw) 103 [.int x0, .int x1] H (fun v H => W (pj lw) 100 39 L (v.toList ++ S) k n H Q)) := W_stat (a := [.int x0, .int x1]) (rfl : (pj lw).1 100 36 = some (.invokestatic 14, 3, 103)) rfl rfl rfl (Nat.le_of_ble_eq_true rfl) (Nat.le_of_ble_eq_true rfl) ⟨rfl, rfl⟩
theorem w100_39 {x y : Int32} : W (pj lw) 100 39 L (.int y :: .int x :: S) k n H Q ↔ W (pj lw) 100 40 L (.int (x + y) :: S) k n H Q := W_s (rfl : (pj lw).1 100 39 = some (.iadd, 1, 0)) rfl rfl rfl
theorem w100_40 : W (pj lw) 100 40 L S k n H Q ↔ W (pj lw) 100 41 L (.int 1 :: S) k n H Q := W_s (rfl : (pj lw).1 100 40 = some (.iconst 1, 1, 0)) rfl rfl rfl
theorem w100_41 {x : Nat} : W (pj lw) 100 41 (.val (.ref x) :: L) S k n H Q ↔ W (pj lw) 100 42 (.val (.ref x) :: L) (.ref x :: S) k n H Q := W_s (rfl : (pj lw).1 100 41 = some (.aload_n 0, 1, 0)) rfl rfl rfl
theorem w100_42 : W (pj lw) 100 42 L S k n H Q ↔ W (pj lw) 100 43 L (.int 3 :: S) k n H Q := W_s (rfl : (pj lw).1 100 42 = some (.iconst 3, 1, 0)) rfl rfl rfl
theorem w100_43 {x0 : Nat} {x1 : Int32} : W (pj lw) 100 43 L (.int x1 :: .ref x0 :: S) k n H Q ↔ (cs S + (2 + 11) + 0 ≤ 192 ∧ Cl (pj lw) 102 [.ref x0, .int x1] H (fun v H => W (pj lw) 100 46 L (v.toList ++ S) k n H Q)) := W_stat (a := [.ref x0, .int x1]) (rfl : (pj lw).1 100 43 = some (.invokestatic 8, 3, 102)) rfl rfl rfl (Nat.le_of_ble_eq_true rfl) (Nat.le_of_ble_eq_true rfl) ⟨rfl, rfl⟩
theorem w100_46 : W (pj lw) 100 46 L S k n H Q ↔ W (pj lw) 100 48 L (.int 8 :: S) k n H Q := W_s (rfl : (pj lw).1 100 46 = some (.bipush 8, 2, 0)) rfl rfl rfl
theorem w100_48 {x0 : Int32} {x1 : Int32} : W (pj lw) 100 48 L (.int x1 :: .int x0 :: S) k n H Q ↔ (cs S + (2 + 11) + 0 ≤ 192 ∧ Cl (pj lw) 103 [.int x0, .int x1] H (fun v H => W (pj lw) 100 51 L (v.toList ++ S) k n H Q)) := W_stat (a := [.int x0, .int x1]) (rfl : (pj lw).1 100 48 = some (.invokestatic 14, 3, 103)) rfl rfl rfl (Nat.le_of_ble_eq_true rfl) (Nat.le_of_ble_eq_true rfl) ⟨rfl, rfl⟩
theorem w100_51 {x y : Int32} : W (pj lw) 100 51 L (.int y :: .int x :: S) k n H Q ↔ W (pj lw) 100 52 L (.int (x + y) :: S) k n H Q := W_s (rfl : (pj lw).1 100 51 = some (.iadd, 1, 0)) rfl rfl rfl
theorem w100_52 {a : Nat} {x0 : Int32} {x1 : Int32} {x2 : Int32} {x3 : Int32} : W (pj lw) 100 52 L (.int x3 :: .int x2 :: .int x1 :: .int x0 :: .ref a :: S) k n H Q ↔ ((isO H a = true ∧ cs S + (6 + 11) + 16 ≤ 192 ∧ k + 14 ≤ 40 ∧ n + 2176 ≤ 4480) ∧ Cl (pj lw) 1 [.ref a, .int x0, .int x1, .int x2, .int x3] H (fun v H => W (pj lw) 100 55 L (v.toList ++ S) (k + 14) (n + 2176) H Q)) := W_init (as := [.int x0, .int x1, .int x2, .int x3]) (rfl : (pj lw).1 100 52 = some (.invokespecial 20, 3, 1)) rfl rfl rfl (Nat.le_of_ble_eq_true rfl) (Nat.le_of_ble_eq_true rfl) (fun h => absurd (show (14 : Nat) = 0 from h.1) (by decide))
theorem w100_55 {x : Nat} {l0 l1 : Slot} : W (pj lw) 100 55 (l0 :: l1 :: .unset :: L) (.ref x :: S) k n H Q ↔ W (pj lw) 100 56 (l0 :: l1 :: .val (.ref x) :: L) S k n H Q := W_astn (rfl : (pj lw).1 100 55 = some (.astore_n 2, 1, 0)) rfl rfl
theorem w100_56 {x : Nat} {l0 l1 : Slot} : W (pj lw) 100 56 (l0 :: l1 :: .val (.ref x) :: L) S k n H Q ↔ W (pj lw) 100 57 (l0 :: l1 :: .val (.ref x) :: L) (.ref x :: S) k n H Q := W_s (rfl : (pj lw).1 100 56 = some (.aload_n 2, 1, 0)) rfl rfl rfl
theorem w100_57 {x : Nat} : W (pj lw) 100 57 (.val (.ref x) :: L) S k n H Q ↔ W (pj lw) 100 58 (.val (.ref x) :: L) (.ref x :: S) k n H Q := W_s (rfl : (pj lw).1 100 57 = some (.aload_n 0, 1, 0)) rfl rfl rfl
theorem w100_58 : W (pj lw) 100 58 L S k n H Q ↔ W (pj lw) 100 59 L (.int 4 :: S) k n H Q := W_s (rfl : (pj lw).1 100 58 = some (.iconst 4, 1, 0)) rfl rfl rfl
theorem w100_59 {x0 : Nat} {x1 : Int32} : W (pj lw) 100 59 L (.int x1 :: .ref x0 :: S) k n H Q ↔ (cs S + (2 + 11) + 0 ≤ 192 ∧ Cl (pj lw) 102 [.ref x0, .int x1] H (fun v H => W (pj lw) 100 62 L (v.toList ++ S) k n H Q)) := W_stat (a := [.ref x0, .int x1]) (rfl : (pj lw).1 100 59 = some (.invokestatic 8, 3, 102)) rfl rfl rfl (Nat.le_of_ble_eq_true rfl) (Nat.le_of_ble_eq_true rfl) ⟨rfl, rfl⟩
theorem w100_62 {a : Nat} {x0 : Int32} : W (pj lw) 100 62 L (.int x0 :: .ref a :: S) k n H Q ↔ ((isO H a = true ∧ cs S + (2 + 11) + 0 ≤ 192) ∧ Cl (pj lw) 2 [.ref a, .int x0] H (fun v H => W (pj lw) 100 65 L (v.toList ++ S) k n H Q)) := W_inst (as := [.int x0]) (rfl : (pj lw).1 100 62 = some (.invokevirtual 23, 3, 2)) rfl rfl rfl (Nat.le_of_ble_eq_true rfl) (Nat.le_of_ble_eq_true rfl) ⟨rfl, rfl⟩
theorem w100_65 {x : Nat} {l0 l1 : Slot} : W (pj lw) 100 65 (l0 :: l1 :: .val (.ref x) :: L) S k n H Q ↔ W (pj lw) 100 66 (l0 :: l1 :: .val (.ref x) :: L) (.ref x :: S) k n H Q := W_s (rfl : (pj lw).1 100 65 = some (.aload_n 2, 1, 0)) rfl rfl rfl
theorem w100_66 : W (pj lw) 100 66 L S k n H Q ↔ W (pj lw) 100 67 L (.int 1 :: S) k n H Q := W_s (rfl : (pj lw).1 100 66 = some (.iconst 1, 1, 0)) rfl rfl rfl
theorem w100_67 {x : Nat} : W (pj lw) 100 67 (.val (.ref x) :: L) S k n H Q ↔ W (pj lw) 100 68 (.val (.ref x) :: L) (.ref x :: S) k n H Q := W_s (rfl : (pj lw).1 100 67 = some (.aload_n 0, 1, 0)) rfl rfl rfl
theorem w100_68 : W (pj lw) 100 68 L S k n H Q ↔ W (pj lw) 100 69 L (.int 5 :: S) k n H Q := W_s (rfl : (pj lw).1 100 68 = some (.iconst 5, 1, 0)) rfl rfl rfl
theorem w100_69 {x0 : Nat} {x1 : Int32} : W (pj lw) 100 69 L (.int x1 :: .ref x0 :: S) k n H Q ↔ (cs S + (2 + 11) + 0 ≤ 192 ∧ Cl (pj lw) 102 [.ref x0, .int x1] H (fun v H => W (pj lw) 100 72 L (v.toList ++ S) k n H Q)) := W_stat (a := [.ref x0, .int x1]) (rfl : (pj lw).1 100 69 = some (.invokestatic 8, 3, 102)) rfl rfl rfl (Nat.le_of_ble_eq_true rfl) (Nat.le_of_ble_eq_true rfl) ⟨rfl, rfl⟩
theorem w100_72 : W (pj lw) 100 72 L S k n H Q ↔ W (pj lw) 100 73 L (.int 4 :: S) k n H Q := W_s (rfl : (pj lw).1 100 72 = some (.iconst 4, 1, 0)) rfl rfl rfl
theorem w100_73 {x0 : Int32} {x1 : Int32} : W (pj lw) 100 73 L (.int x1 :: .int x0 :: S) k n H Q ↔ (cs S + (2 + 11) + 0 ≤ 192 ∧ Cl (pj lw) 103 [.int x0, .int x1] H (fun v H => W (pj lw) 100 76 L (v.toList ++ S) k n H Q)) := W_stat (a := [.int x0, .int x1]) (rfl : (pj lw).1 100 73 = some (.invokestatic 14, 3, 103)) rfl rfl rfl (Nat.le_of_ble_eq_true rfl) (Nat.le_of_ble_eq_true rfl) ⟨rfl, rfl⟩
theorem w100_76 {x y : Int32} : W (pj lw) 100 76 L (.int y :: .int x :: S) k n H Q ↔ W (pj lw) 100 77 L (.int (x + y) :: S) k n H Q := W_s (rfl : (pj lw).1 100 76 = some (.iadd, 1, 0)) rfl rfl rfl
theorem w100_77 {a : Nat} {x0 : Int32} : W (pj lw) 100 77 L (.int x0 :: .ref a :: S) k n H Q ↔ ((isO H a = true ∧ cs S + (2 + 11) + 16 ≤ 192) ∧ Cl (pj lw) 3 [.ref a, .int x0] H (fun v H => W (pj lw) 100 80 L (v.toList ++ S) k n H Q)) := W_inst (as := [.int x0]) (rfl : (pj lw).1 100 77 = some (.invokevirtual 27, 3, 3)) rfl rfl rfl (Nat.le_of_ble_eq_true rfl) (Nat.le_of_ble_eq_true rfl) ⟨rfl, rfl⟩
theorem w100_80 {x : Int32} : W (pj lw) 100 80 L (.int x :: S) k n H Q ↔ W (pj lw) 100 81 L S k n H Q := W_s (rfl : (pj lw).1 100 80 = some (.pop, 1, 0)) rfl rfl rfl
theorem w100_81 : W (pj lw) 100 81 L S k n H Q ↔ W (pj lw) 100 82 L (.long 0 :: S) k n H Q := W_s (rfl : (pj lw).1 100 81 = some (.lconst 0, 1, 0)) rfl rfl rfl
theorem w100_82uu {x : Int64} {l0 l1 l2 : Slot} : W (pj lw) 100 82 (l0 :: l1 :: l2 :: .unset :: .unset :: L) (.long x :: S) k n H Q ↔ W (pj lw) 100 83 (l0 :: l1 :: l2 :: .val (.long x) :: .second :: L) S k n H Q := W_lstn (rfl : (pj lw).1 100 82 = some (.lstore_n 3, 1, 0)) rfl rfl rfl rfl
theorem w100_83 : W (pj lw) 100 83 L S k n H Q ↔ W (pj lw) 100 84 L (.int 0 :: S) k n H Q := W_s (rfl : (pj lw).1 100 83 = some (.iconst 0, 1, 0)) rfl rfl rfl
theorem w100_84 {x : Int32} {l0 l1 l2 l3 l4 : Slot} : W (pj lw) 100 84 (l0 :: l1 :: l2 :: l3 :: l4 :: .unset :: L) (.int x :: S) k n H Q ↔ W (pj lw) 100 86 (l0 :: l1 :: l2 :: l3 :: l4 :: .val (.int x) :: L) S k n H Q := W_ist (rfl : (pj lw).1 100 84 = some (.istore 5, 2, 0)) rfl rfl
theorem w100_86 : W (pj lw) 100 86 L S k n H Q ↔ W (pj lw) 100 87 L (.long 0 :: S) k n H Q := W_s (rfl : (pj lw).1 100 86 = some (.lconst 0, 1, 0)) rfl rfl rfl
theorem w100_87uu {x : Int64} {l0 l1 l2 l3 l4 l5 : Slot} : W (pj lw) 100 87 (l0 :: l1 :: l2 :: l3 :: l4 :: l5 :: .unset :: .unset :: L) (.long x :: S) k n H Q ↔ W (pj lw) 100 89 (l0 :: l1 :: l2 :: l3 :: l4 :: l5 :: .val (.long x) :: .second :: L) S k n H Q := W_lst (rfl : (pj lw).1 100 87 = some (.lstore 6, 2, 0)) rfl rfl rfl rfl
theorem w100_89 : W (pj lw) 100 89 L S k n H Q ↔ W (pj lw) 100 90 L (.int 0 :: S) k n H Q := W_s (rfl : (pj lw).1 100 89 = some (.iconst 0, 1, 0)) rfl rfl rfl
theorem w100_90 {x : Int32} {l0 l1 l2 l3 l4 l5 l6 l7 : Slot} : W (pj lw) 100 90 (l0 :: l1 :: l2 :: l3 :: l4 :: l5 :: l6 :: l7 :: .unset :: L) (.int x :: S) k n H Q ↔ W (pj lw) 100 92 (l0 :: l1 :: l2 :: l3 :: l4 :: l5 :: l6 :: l7 :: .val (.int x) :: L) S k n H Q := W_ist (rfl : (pj lw).1 100 90 = some (.istore 8, 2, 0)) rfl rfl
theorem w100_92 : W (pj lw) 100 92 L S k n H Q ↔ W (pj lw) 100 94 L (.int 6 :: S) k n H Q := W_s (rfl : (pj lw).1 100 92 = some (.bipush 6, 2, 0)) rfl rfl rfl
theorem w100_94 {x : Int32} {l0 l1 l2 l3 l4 l5 l6 l7 l8 : Slot} : W (pj lw) 100 94 (l0 :: l1 :: l2 :: l3 :: l4 :: l5 :: l6 :: l7 :: l8 :: .unset :: L) (.int x :: S) k n H Q ↔ W (pj lw) 100 96 (l0 :: l1 :: l2 :: l3 :: l4 :: l5 :: l6 :: l7 :: l8 :: .val (.int x) :: L) S k n H Q := W_ist (rfl : (pj lw).1 100 94 = some (.istore 9, 2, 0)) rfl rfl
theorem w100_96 : W (pj lw) 100 96 L S k n H Q ↔ W (pj lw) 100 97 L (.int 0 :: S) k n H Q := W_s (rfl : (pj lw).1 100 96 = some (.iconst 0, 1, 0)) rfl rfl rfl
theorem w100_97 {x : Int32} {l0 l1 l2 l3 l4 l5 l6 l7 l8 l9 : Slot} : W (pj lw) 100 97 (l0 :: l1 :: l2 :: l3 :: l4 :: l5 :: l6 :: l7 :: l8 :: l9 :: .unset :: L) (.int x :: S) k n H Q ↔ W (pj lw) 100 99 (l0 :: l1 :: l2 :: l3 :: l4 :: l5 :: l6 :: l7 :: l8 :: l9 :: .val (.int x) :: L) S k n H Q := W_ist (rfl : (pj lw).1 100 97 = some (.istore 10, 2, 0)) rfl rfl
theorem w100_99 : W (pj lw) 100 99 L S k n H Q ↔ W (pj lw) 100 100 L (.int 0 :: S) k n H Q := W_s (rfl : (pj lw).1 100 99 = some (.iconst 0, 1, 0)) rfl rfl rfl
theorem w100_100j {x : Int32} {y : Int64} {l0 l1 l2 l3 l4 l5 l6 l7 l8 l9 l10 : Slot} : W (pj lw) 100 100 (l0 :: l1 :: l2 :: l3 :: l4 :: l5 :: l6 :: l7 :: l8 :: l9 :: l10 :: .val (.long y) :: .second :: L) (.int x :: S) k n H Q ↔ W (pj lw) 100 102 (l0 :: l1 :: l2 :: l3 :: l4 :: l5 :: l6 :: l7 :: l8 :: l9 :: l10 :: .val (.int x) :: .unset :: L) S k n H Q := W_ist' (rfl : (pj lw).1 100 100 = some (.istore 11, 2, 0)) rfl rfl
theorem w100_100 {x : Int32} {l0 l1 l2 l3 l4 l5 l6 l7 l8 l9 l10 : Slot} : W (pj lw) 100 100 (l0 :: l1 :: l2 :: l3 :: l4 :: l5 :: l6 :: l7 :: l8 :: l9 :: l10 :: .unset :: L) (.int x :: S) k n H Q ↔ W (pj lw) 100 102 (l0 :: l1 :: l2 :: l3 :: l4 :: l5 :: l6 :: l7 :: l8 :: l9 :: l10 :: .val (.int x) :: L) S k n H Q := W_ist (rfl : (pj lw).1 100 100 = some (.istore 11, 2, 0)) rfl rfl
theorem w100_102 {x : Int32} {l0 l1 l2 l3 l4 l5 l6 l7 l8 l9 l10 : Slot} : W (pj lw) 100 102 (l0 :: l1 :: l2 :: l3 :: l4 :: l5 :: l6 :: l7 :: l8 :: l9 :: l10 :: .val (.int x) :: L) S k n H Q ↔ W (pj lw) 100 104 (l0 :: l1 :: l2 :: l3 :: l4 :: l5 :: l6 :: l7 :: l8 :: l9 :: l10 :: .val (.int x) :: L) (.int x :: S) k n H Q := W_s (rfl : (pj lw).1 100 102 = some (.iload 11, 2, 0)) rfl rfl rfl
theorem w100_104 : W (pj lw) 100 104 L S k n H Q ↔ W (pj lw) 100 105 L (.int 4 :: S) k n H Q := W_s (rfl : (pj lw).1 100 104 = some (.iconst 4, 1, 0)) rfl rfl rfl
theorem w100_105 {x y : Int32} : W (pj lw) 100 105 L (.int y :: .int x :: S) k n H Q ↔ (if x < y then W (pj lw) 100 108 L S k n H Q else W (pj lw) 100 125 L S k n H Q) := W_icmp_ge (rfl : (pj lw).1 100 105 = some (.if_icmp .ge 20, 3, 0)) rfl
theorem w100_108 {x : Int32} {l0 l1 l2 l3 l4 l5 l6 l7 l8 l9 : Slot} : W (pj lw) 100 108 (l0 :: l1 :: l2 :: l3 :: l4 :: l5 :: l6 :: l7 :: l8 :: l9 :: .val (.int x) :: L) S k n H Q ↔ W (pj lw) 100 110 (l0 :: l1 :: l2 :: l3 :: l4 :: l5 :: l6 :: l7 :: l8 :: l9 :: .val (.int x) :: L) (.int x :: S) k n H Q := W_s (rfl : (pj lw).1 100 108 = some (.iload 10, 2, 0)) rfl rfl rfl
theorem w100_110 {x : Nat} {l0 l1 : Slot} : W (pj lw) 100 110 (l0 :: l1 :: .val (.ref x) :: L) S k n H Q ↔ W (pj lw) 100 111 (l0 :: l1 :: .val (.ref x) :: L) (.ref x :: S) k n H Q := W_s (rfl : (pj lw).1 100 110 = some (.aload_n 2, 1, 0)) rfl rfl rfl
theorem w100_111 {x : Int32} {l0 l1 l2 l3 l4 l5 l6 l7 l8 l9 l10 : Slot} : W (pj lw) 100 111 (l0 :: l1 :: l2 :: l3 :: l4 :: l5 :: l6 :: l7 :: l8 :: l9 :: l10 :: .val (.int x) :: L) S k n H Q ↔ W (pj lw) 100 113 (l0 :: l1 :: l2 :: l3 :: l4 :: l5 :: l6 :: l7 :: l8 :: l9 :: l10 :: .val (.int x) :: L) (.int x :: S) k n H Q := W_s (rfl : (pj lw).1 100 111 = some (.iload 11, 2, 0)) rfl rfl rfl
theorem w100_113 {a : Nat} {x0 : Int32} : W (pj lw) 100 113 L (.int x0 :: .ref a :: S) k n H Q ↔ ((isO H a = true ∧ cs S + (2 + 11) + 16 ≤ 192) ∧ Cl (pj lw) 16 [.ref a, .int x0] H (fun v H => W (pj lw) 100 116 L (v.toList ++ S) k n H Q)) := W_inst (as := [.int x0]) (rfl : (pj lw).1 100 113 = some (.invokevirtual 31, 3, 16)) rfl rfl rfl (Nat.le_of_ble_eq_true rfl) (Nat.le_of_ble_eq_true rfl) ⟨rfl, rfl⟩
theorem w100_116 {x y : Int32} : W (pj lw) 100 116 L (.int y :: .int x :: S) k n H Q ↔ W (pj lw) 100 117 L (.int (x + y) :: S) k n H Q := W_s (rfl : (pj lw).1 100 116 = some (.iadd, 1, 0)) rfl rfl rfl
theorem w100_117i {y : Int32} {x : Int32} {l0 l1 l2 l3 l4 l5 l6 l7 l8 l9 : Slot} : W (pj lw) 100 117 (l0 :: l1 :: l2 :: l3 :: l4 :: l5 :: l6 :: l7 :: l8 :: l9 :: .val (.int y) :: L) (.int x :: S) k n H Q ↔ W (pj lw) 100 119 (l0 :: l1 :: l2 :: l3 :: l4 :: l5 :: l6 :: l7 :: l8 :: l9 :: .val (.int x) :: L) S k n H Q := W_ist (rfl : (pj lw).1 100 117 = some (.istore 10, 2, 0)) rfl rfl
theorem w100_119 {x : Int32} {l0 l1 l2 l3 l4 l5 l6 l7 l8 l9 l10 : Slot} : W (pj lw) 100 119 (l0 :: l1 :: l2 :: l3 :: l4 :: l5 :: l6 :: l7 :: l8 :: l9 :: l10 :: .val (.int x) :: L) S k n H Q ↔ W (pj lw) 100 122 (l0 :: l1 :: l2 :: l3 :: l4 :: l5 :: l6 :: l7 :: l8 :: l9 :: l10 :: .val (.int (x + 1)) :: L) S k n H Q := W_s (rfl : (pj lw).1 100 119 = some (.iinc 11 1, 3, 0)) rfl rfl rfl
theorem w100_122 : W (pj lw) 100 122 L S k n H Q ↔ W (pj lw) 100 102 L S k n H Q := W_goto (rfl : (pj lw).1 100 122 = some (.goto (-20), 3, 0)) rfl
theorem w100_125 {x : Int32} {l0 l1 l2 l3 l4 l5 l6 l7 l8 l9 : Slot} : W (pj lw) 100 125 (l0 :: l1 :: l2 :: l3 :: l4 :: l5 :: l6 :: l7 :: l8 :: l9 :: .val (.int x) :: L) S k n H Q ↔ W (pj lw) 100 127 (l0 :: l1 :: l2 :: l3 :: l4 :: l5 :: l6 :: l7 :: l8 :: l9 :: .val (.int x) :: L) (.int x :: S) k n H Q := W_s (rfl : (pj lw).1 100 125 = some (.iload 10, 2, 0)) rfl rfl rfl
theorem w100_127 {x : Int32} {l0 : Slot} : W (pj lw) 100 127 (l0 :: .val (.int x) :: L) S k n H Q ↔ W (pj lw) 100 128 (l0 :: .val (.int x) :: L) (.int x :: S) k n H Q := W_s (rfl : (pj lw).1 100 127 = some (.iload_n 1, 1, 0)) rfl rfl rfl
theorem w100_128 {x y : Int32} : W (pj lw) 100 128 L (.int y :: .int x :: S) k n H Q ↔ (if x = y then W (pj lw) 100 133 L S k n H Q else W (pj lw) 100 131 L S k n H Q) := W_icmp_eq (rfl : (pj lw).1 100 128 = some (.if_icmp .eq 5, 3, 0)) rfl
theorem w100_133 {x : Nat} {l0 l1 : Slot} : W (pj lw) 100 133 (l0 :: l1 :: .val (.ref x) :: L) S k n H Q ↔ W (pj lw) 100 134 (l0 :: l1 :: .val (.ref x) :: L) (.ref x :: S) k n H Q := W_s (rfl : (pj lw).1 100 133 = some (.aload_n 2, 1, 0)) rfl rfl rfl
theorem w100_134 : W (pj lw) 100 134 L S k n H Q ↔ W (pj lw) 100 136 L (.int 11 :: S) k n H Q := W_s (rfl : (pj lw).1 100 134 = some (.bipush 11, 2, 0)) rfl rfl rfl
theorem w100_136 {a : Nat} {x0 : Int32} : W (pj lw) 100 136 L (.int x0 :: .ref a :: S) k n H Q ↔ ((isO H a = true ∧ cs S + (2 + 11) + 16 ≤ 192) ∧ Cl (pj lw) 16 [.ref a, .int x0] H (fun v H => W (pj lw) 100 139 L (v.toList ++ S) k n H Q)) := W_inst (as := [.int x0]) (rfl : (pj lw).1 100 136 = some (.invokevirtual 31, 3, 16)) rfl rfl rfl (Nat.le_of_ble_eq_true rfl) (Nat.le_of_ble_eq_true rfl) ⟨rfl, rfl⟩
theorem w100_139 {x : Int32} {l0 : Slot} : W (pj lw) 100 139 (l0 :: .val (.int x) :: L) S k n H Q ↔ W (pj lw) 100 140 (l0 :: .val (.int x) :: L) (.int x :: S) k n H Q := W_s (rfl : (pj lw).1 100 139 = some (.iload_n 1, 1, 0)) rfl rfl rfl
theorem w100_140 {x : Nat} {l0 l1 : Slot} : W (pj lw) 100 140 (l0 :: l1 :: .val (.ref x) :: L) S k n H Q ↔ W (pj lw) 100 141 (l0 :: l1 :: .val (.ref x) :: L) (.ref x :: S) k n H Q := W_s (rfl : (pj lw).1 100 140 = some (.aload_n 2, 1, 0)) rfl rfl rfl
theorem w100_141 : W (pj lw) 100 141 L S k n H Q ↔ W (pj lw) 100 142 L (.int 0 :: S) k n H Q := W_s (rfl : (pj lw).1 100 141 = some (.iconst 0, 1, 0)) rfl rfl rfl
theorem w100_142 {a : Nat} {x0 : Int32} : W (pj lw) 100 142 L (.int x0 :: .ref a :: S) k n H Q ↔ ((isO H a = true ∧ cs S + (2 + 11) + 16 ≤ 192) ∧ Cl (pj lw) 16 [.ref a, .int x0] H (fun v H => W (pj lw) 100 145 L (v.toList ++ S) k n H Q)) := W_inst (as := [.int x0]) (rfl : (pj lw).1 100 142 = some (.invokevirtual 31, 3, 16)) rfl rfl rfl (Nat.le_of_ble_eq_true rfl) (Nat.le_of_ble_eq_true rfl) ⟨rfl, rfl⟩
theorem w100_145 {x y : Int32} : W (pj lw) 100 145 L (.int y :: .int x :: S) k n H Q ↔ W (pj lw) 100 146 L (.int (x - y) :: S) k n H Q := W_s (rfl : (pj lw).1 100 145 = some (.isub, 1, 0)) rfl rfl rfl
theorem w100_146 {x y : Int32} : W (pj lw) 100 146 L (.int y :: .int x :: S) k n H Q ↔ (if x = y then W (pj lw) 100 151 L S k n H Q else W (pj lw) 100 149 L S k n H Q) := W_icmp_eq (rfl : (pj lw).1 100 146 = some (.if_icmp .eq 5, 3, 0)) rfl
theorem w100_151 {x : Nat} {l0 l1 : Slot} : W (pj lw) 100 151 (l0 :: l1 :: .val (.ref x) :: L) S k n H Q ↔ W (pj lw) 100 152 (l0 :: l1 :: .val (.ref x) :: L) (.ref x :: S) k n H Q := W_s (rfl : (pj lw).1 100 151 = some (.aload_n 2, 1, 0)) rfl rfl rfl
theorem w100_152 : W (pj lw) 100 152 L S k n H Q ↔ W (pj lw) 100 154 L (.int 10 :: S) k n H Q := W_s (rfl : (pj lw).1 100 152 = some (.bipush 10, 2, 0)) rfl rfl rfl
theorem w100_154 {a : Nat} {x0 : Int32} : W (pj lw) 100 154 L (.int x0 :: .ref a :: S) k n H Q ↔ ((isO H a = true ∧ cs S + (2 + 11) + 16 ≤ 192) ∧ Cl (pj lw) 16 [.ref a, .int x0] H (fun v H => W (pj lw) 100 157 L (v.toList ++ S) k n H Q)) := W_inst (as := [.int x0]) (rfl : (pj lw).1 100 154 = some (.invokevirtual 31, 3, 16)) rfl rfl rfl (Nat.le_of_ble_eq_true rfl) (Nat.le_of_ble_eq_true rfl) ⟨rfl, rfl⟩
theorem w100_157 {x : Int32} {l0 l1 l2 l3 l4 l5 l6 l7 : Slot} : W (pj lw) 100 157 (l0 :: l1 :: l2 :: l3 :: l4 :: l5 :: l6 :: l7 :: .val (.int x) :: L) S k n H Q ↔ W (pj lw) 100 159 (l0 :: l1 :: l2 :: l3 :: l4 :: l5 :: l6 :: l7 :: .val (.int x) :: L) (.int x :: S) k n H Q := W_s (rfl : (pj lw).1 100 157 = some (.iload 8, 2, 0)) rfl rfl rfl
theorem w100_159 {x y : Int32} : W (pj lw) 100 159 L (.int y :: .int x :: S) k n H Q ↔ (if x = y then W (pj lw) 100 164 L S k n H Q else W (pj lw) 100 162 L S k n H Q) := W_icmp_eq (rfl : (pj lw).1 100 159 = some (.if_icmp .eq 5, 3, 0)) rfl
theorem w100_164 {x : Nat} {l0 l1 : Slot} : W (pj lw) 100 164 (l0 :: l1 :: .val (.ref x) :: L) S k n H Q ↔ W (pj lw) 100 165 (l0 :: l1 :: .val (.ref x) :: L) (.ref x :: S) k n H Q := W_s (rfl : (pj lw).1 100 164 = some (.aload_n 2, 1, 0)) rfl rfl rfl
theorem w100_165 : W (pj lw) 100 165 L S k n H Q ↔ W (pj lw) 100 167 L (.int 9 :: S) k n H Q := W_s (rfl : (pj lw).1 100 165 = some (.bipush 9, 2, 0)) rfl rfl rfl
theorem w100_167 {a : Nat} {x0 : Int32} : W (pj lw) 100 167 L (.int x0 :: .ref a :: S) k n H Q ↔ ((isO H a = true ∧ cs S + (2 + 11) + 16 ≤ 192) ∧ Cl (pj lw) 16 [.ref a, .int x0] H (fun v H => W (pj lw) 100 170 L (v.toList ++ S) k n H Q)) := W_inst (as := [.int x0]) (rfl : (pj lw).1 100 167 = some (.invokevirtual 31, 3, 16)) rfl rfl rfl (Nat.le_of_ble_eq_true rfl) (Nat.le_of_ble_eq_true rfl) ⟨rfl, rfl⟩
theorem w100_170 {x : Int32} {l0 l1 l2 l3 l4 : Slot} : W (pj lw) 100 170 (l0 :: l1 :: l2 :: l3 :: l4 :: .val (.int x) :: L) S k n H Q ↔ W (pj lw) 100 172 (l0 :: l1 :: l2 :: l3 :: l4 :: .val (.int x) :: L) (.int x :: S) k n H Q := W_s (rfl : (pj lw).1 100 170 = some (.iload 5, 2, 0)) rfl rfl rfl
theorem w100_172 {x y : Int32} : W (pj lw) 100 172 L (.int y :: .int x :: S) k n H Q ↔ (if x = y then W (pj lw) 100 177 L S k n H Q else W (pj lw) 100 175 L S k n H Q) := W_icmp_eq (rfl : (pj lw).1 100 172 = some (.if_icmp .eq 5, 3, 0)) rfl
theorem w100_177 : W (pj lw) 100 177 L S k n H Q ↔ W (pj lw) 100 178 L (.long 0 :: S) k n H Q := W_s (rfl : (pj lw).1 100 177 = some (.lconst 0, 1, 0)) rfl rfl rfl
theorem w100_178iu {y : Int32} {x : Int64} {l0 l1 l2 l3 l4 l5 l6 l7 l8 l9 l10 : Slot} : W (pj lw) 100 178 (l0 :: l1 :: l2 :: l3 :: l4 :: l5 :: l6 :: l7 :: l8 :: l9 :: l10 :: .val (.int y) :: .unset :: L) (.long x :: S) k n H Q ↔ W (pj lw) 100 180 (l0 :: l1 :: l2 :: l3 :: l4 :: l5 :: l6 :: l7 :: l8 :: l9 :: l10 :: .val (.long x) :: .second :: L) S k n H Q := W_lst (rfl : (pj lw).1 100 178 = some (.lstore 11, 2, 0)) rfl rfl rfl rfl
theorem w100_180 : W (pj lw) 100 180 L S k n H Q ↔ W (pj lw) 100 181 L (.int 0 :: S) k n H Q := W_s (rfl : (pj lw).1 100 180 = some (.iconst 0, 1, 0)) rfl rfl rfl
theorem w100_181 {x : Int32} {l0 l1 l2 l3 l4 l5 l6 l7 l8 l9 l10 l11 l12 : Slot} : W (pj lw) 100 181 (l0 :: l1 :: l2 :: l3 :: l4 :: l5 :: l6 :: l7 :: l8 :: l9 :: l10 :: l11 :: l12 :: .unset :: L) (.int x :: S) k n H Q ↔ W (pj lw) 100 183 (l0 :: l1 :: l2 :: l3 :: l4 :: l5 :: l6 :: l7 :: l8 :: l9 :: l10 :: l11 :: l12 :: .val (.int x) :: L) S k n H Q := W_ist (rfl : (pj lw).1 100 181 = some (.istore 13, 2, 0)) rfl rfl
theorem w100_183 {x : Int32} {l0 l1 l2 l3 l4 l5 l6 l7 l8 l9 l10 l11 l12 : Slot} : W (pj lw) 100 183 (l0 :: l1 :: l2 :: l3 :: l4 :: l5 :: l6 :: l7 :: l8 :: l9 :: l10 :: l11 :: l12 :: .val (.int x) :: L) S k n H Q ↔ W (pj lw) 100 185 (l0 :: l1 :: l2 :: l3 :: l4 :: l5 :: l6 :: l7 :: l8 :: l9 :: l10 :: l11 :: l12 :: .val (.int x) :: L) (.int x :: S) k n H Q := W_s (rfl : (pj lw).1 100 183 = some (.iload 13, 2, 0)) rfl rfl rfl
theorem w100_185 {x : Int32} {l0 : Slot} : W (pj lw) 100 185 (l0 :: .val (.int x) :: L) S k n H Q ↔ W (pj lw) 100 186 (l0 :: .val (.int x) :: L) (.int x :: S) k n H Q := W_s (rfl : (pj lw).1 100 185 = some (.iload_n 1, 1, 0)) rfl rfl rfl
theorem w100_186 {x y : Int32} : W (pj lw) 100 186 L (.int y :: .int x :: S) k n H Q ↔ (if x < y then W (pj lw) 100 189 L S k n H Q else W (pj lw) 100 510 L S k n H Q) := W_icmp_ge (rfl : (pj lw).1 100 186 = some (.if_icmp .ge 324, 3, 0)) rfl
theorem w100_189 {x : Nat} {l0 l1 : Slot} : W (pj lw) 100 189 (l0 :: l1 :: .val (.ref x) :: L) S k n H Q ↔ W (pj lw) 100 190 (l0 :: l1 :: .val (.ref x) :: L) (.ref x :: S) k n H Q := W_s (rfl : (pj lw).1 100 189 = some (.aload_n 2, 1, 0)) rfl rfl rfl
theorem w100_190 {x : Int32} {l0 l1 l2 l3 l4 l5 l6 l7 l8 l9 l10 l11 l12 : Slot} : W (pj lw) 100 190 (l0 :: l1 :: l2 :: l3 :: l4 :: l5 :: l6 :: l7 :: l8 :: l9 :: l10 :: l11 :: l12 :: .val (.int x) :: L) S k n H Q ↔ W (pj lw) 100 192 (l0 :: l1 :: l2 :: l3 :: l4 :: l5 :: l6 :: l7 :: l8 :: l9 :: l10 :: l11 :: l12 :: .val (.int x) :: L) (.int x :: S) k n H Q := W_s (rfl : (pj lw).1 100 190 = some (.iload 13, 2, 0)) rfl rfl rfl
theorem w100_192 {a : Nat} {x0 : Int32} : W (pj lw) 100 192 L (.int x0 :: .ref a :: S) k n H Q ↔ ((isO H a = true ∧ cs S + (2 + 11) + 13 ≤ 192) ∧ Cl (pj lw) 8 [.ref a, .int x0] H (fun v H => W (pj lw) 100 195 L (v.toList ++ S) k n H Q)) := W_inst (as := [.int x0]) (rfl : (pj lw).1 100 192 = some (.invokevirtual 34, 3, 8)) rfl rfl rfl (Nat.le_of_ble_eq_true rfl) (Nat.le_of_ble_eq_true rfl) ⟨rfl, rfl⟩
theorem w100_195 {x : Int32} {l0 l1 l2 l3 l4 l5 l6 l7 l8 l9 l10 l11 l12 l13 : Slot} : W (pj lw) 100 195 (l0 :: l1 :: l2 :: l3 :: l4 :: l5 :: l6 :: l7 :: l8 :: l9 :: l10 :: l11 :: l12 :: l13 :: .unset :: L) (.int x :: S) k n H Q ↔ W (pj lw) 100 197 (l0 :: l1 :: l2 :: l3 :: l4 :: l5 :: l6 :: l7 :: l8 :: l9 :: l10 :: l11 :: l12 :: l13 :: .val (.int x) :: L) S k n H Q := W_ist (rfl : (pj lw).1 100 195 = some (.istore 14, 2, 0)) rfl rfl
theorem w100_197 {x : Int32} {l0 l1 l2 l3 l4 l5 l6 l7 l8 l9 l10 l11 l12 l13 : Slot} : W (pj lw) 100 197 (l0 :: l1 :: l2 :: l3 :: l4 :: l5 :: l6 :: l7 :: l8 :: l9 :: l10 :: l11 :: l12 :: l13 :: .val (.int x) :: L) S k n H Q ↔ W (pj lw) 100 199 (l0 :: l1 :: l2 :: l3 :: l4 :: l5 :: l6 :: l7 :: l8 :: l9 :: l10 :: l11 :: l12 :: l13 :: .val (.int x) :: L) (.int x :: S) k n H Q := W_s (rfl : (pj lw).1 100 197 = some (.iload 14, 2, 0)) rfl rfl rfl
theorem w100_199 {x : Int32} : W (pj lw) 100 199 L (.int x :: S) k n H Q ↔ (if x < 0 then W (pj lw) 100 208 L S k n H Q else W (pj lw) 100 202 L S k n H Q) := W_if_lt (rfl : (pj lw).1 100 199 = some (.ifCond .lt 9, 3, 0)) rfl
theorem w100_202 {x : Int32} {l0 l1 l2 l3 l4 l5 l6 l7 l8 l9 l10 l11 l12 l13 : Slot} : W (pj lw) 100 202 (l0 :: l1 :: l2 :: l3 :: l4 :: l5 :: l6 :: l7 :: l8 :: l9 :: l10 :: l11 :: l12 :: l13 :: .val (.int x) :: L) S k n H Q ↔ W (pj lw) 100 204 (l0 :: l1 :: l2 :: l3 :: l4 :: l5 :: l6 :: l7 :: l8 :: l9 :: l10 :: l11 :: l12 :: l13 :: .val (.int x) :: L) (.int x :: S) k n H Q := W_s (rfl : (pj lw).1 100 202 = some (.iload 14, 2, 0)) rfl rfl rfl
theorem w100_204 : W (pj lw) 100 204 L S k n H Q ↔ W (pj lw) 100 205 L (.int 3 :: S) k n H Q := W_s (rfl : (pj lw).1 100 204 = some (.iconst 3, 1, 0)) rfl rfl rfl
theorem w100_205 {x y : Int32} : W (pj lw) 100 205 L (.int y :: .int x :: S) k n H Q ↔ (if y < x then W (pj lw) 100 208 L S k n H Q else W (pj lw) 100 210 L S k n H Q) := W_icmp_le (rfl : (pj lw).1 100 205 = some (.if_icmp .le 5, 3, 0)) rfl
theorem w100_210 {x : Int64} {l0 l1 l2 l3 l4 l5 : Slot} : W (pj lw) 100 210 (l0 :: l1 :: l2 :: l3 :: l4 :: l5 :: .val (.long x) :: L) S k n H Q ↔ W (pj lw) 100 212 (l0 :: l1 :: l2 :: l3 :: l4 :: l5 :: .val (.long x) :: L) (.long x :: S) k n H Q := W_s (rfl : (pj lw).1 100 210 = some (.lload 6, 2, 0)) rfl rfl rfl
theorem w100_212 : W (pj lw) 100 212 L S k n H Q ↔ W (pj lw) 100 213 L (.int 2 :: S) k n H Q := W_s (rfl : (pj lw).1 100 212 = some (.iconst 2, 1, 0)) rfl rfl rfl
theorem w100_213 {x : Int32} {l0 l1 l2 l3 l4 l5 l6 l7 l8 l9 l10 l11 l12 : Slot} : W (pj lw) 100 213 (l0 :: l1 :: l2 :: l3 :: l4 :: l5 :: l6 :: l7 :: l8 :: l9 :: l10 :: l11 :: l12 :: .val (.int x) :: L) S k n H Q ↔ W (pj lw) 100 215 (l0 :: l1 :: l2 :: l3 :: l4 :: l5 :: l6 :: l7 :: l8 :: l9 :: l10 :: l11 :: l12 :: .val (.int x) :: L) (.int x :: S) k n H Q := W_s (rfl : (pj lw).1 100 213 = some (.iload 13, 2, 0)) rfl rfl rfl
theorem w100_215 {x y : Int32} : W (pj lw) 100 215 L (.int y :: .int x :: S) k n H Q ↔ W (pj lw) 100 216 L (.int (x * y) :: S) k n H Q := W_s (rfl : (pj lw).1 100 215 = some (.imul, 1, 0)) rfl rfl rfl
theorem w100_216 {x : Int64} {y : Int32} : W (pj lw) 100 216 L (.int y :: .long x :: S) k n H Q ↔ W (pj lw) 100 217 L (.long (Jvm.Free.XT.ushrL x y) :: S) k n H Q := W_s (rfl : (pj lw).1 100 216 = some (.lushr, 1, 0)) rfl rfl rfl
theorem w100_217 : W (pj lw) 100 217 L S k n H Q ↔ W (pj lw) 100 220 L (.long 3 :: S) k n H Q := W_s (rfl : (pj lw).1 100 217 = some (.ldc2_w 37, 3, 3)) rfl rfl rfl
theorem w100_220 {x y : Int64} : W (pj lw) 100 220 L (.long y :: .long x :: S) k n H Q ↔ W (pj lw) 100 221 L (.long (x &&& y) :: S) k n H Q := W_s (rfl : (pj lw).1 100 220 = some (.land, 1, 0)) rfl rfl rfl
theorem w100_221 {x : Int64} : W (pj lw) 100 221 L (.long x :: S) k n H Q ↔ W (pj lw) 100 222 L (.int x.toInt32 :: S) k n H Q := W_s (rfl : (pj lw).1 100 221 = some (.l2i, 1, 0)) rfl rfl rfl
theorem w100_222 {x : Int32} {l0 l1 l2 l3 l4 l5 l6 l7 l8 l9 l10 l11 l12 l13 l14 : Slot} : W (pj lw) 100 222 (l0 :: l1 :: l2 :: l3 :: l4 :: l5 :: l6 :: l7 :: l8 :: l9 :: l10 :: l11 :: l12 :: l13 :: l14 :: .unset :: L) (.int x :: S) k n H Q ↔ W (pj lw) 100 224 (l0 :: l1 :: l2 :: l3 :: l4 :: l5 :: l6 :: l7 :: l8 :: l9 :: l10 :: l11 :: l12 :: l13 :: l14 :: .val (.int x) :: L) S k n H Q := W_ist (rfl : (pj lw).1 100 222 = some (.istore 15, 2, 0)) rfl rfl
theorem w100_224 {x : Int32} {l0 l1 l2 l3 l4 l5 l6 l7 l8 l9 l10 l11 l12 l13 : Slot} : W (pj lw) 100 224 (l0 :: l1 :: l2 :: l3 :: l4 :: l5 :: l6 :: l7 :: l8 :: l9 :: l10 :: l11 :: l12 :: l13 :: .val (.int x) :: L) S k n H Q ↔ W (pj lw) 100 226 (l0 :: l1 :: l2 :: l3 :: l4 :: l5 :: l6 :: l7 :: l8 :: l9 :: l10 :: l11 :: l12 :: l13 :: .val (.int x) :: L) (.int x :: S) k n H Q := W_s (rfl : (pj lw).1 100 224 = some (.iload 14, 2, 0)) rfl rfl rfl
theorem w100_226 {x : Int32} {l0 l1 l2 l3 l4 l5 l6 l7 l8 l9 l10 l11 l12 l13 l14 : Slot} : W (pj lw) 100 226 (l0 :: l1 :: l2 :: l3 :: l4 :: l5 :: l6 :: l7 :: l8 :: l9 :: l10 :: l11 :: l12 :: l13 :: l14 :: .val (.int x) :: L) S k n H Q ↔ W (pj lw) 100 228 (l0 :: l1 :: l2 :: l3 :: l4 :: l5 :: l6 :: l7 :: l8 :: l9 :: l10 :: l11 :: l12 :: l13 :: l14 :: .val (.int x) :: L) (.int x :: S) k n H Q := W_s (rfl : (pj lw).1 100 226 = some (.iload 15, 2, 0)) rfl rfl rfl
theorem w100_228 {x y : Int32} : W (pj lw) 100 228 L (.int y :: .int x :: S) k n H Q ↔ (if x < y then W (pj lw) 100 231 L S k n H Q else W (pj lw) 100 233 L S k n H Q) := W_icmp_ge (rfl : (pj lw).1 100 228 = some (.if_icmp .ge 5, 3, 0)) rfl
theorem w100_233 {x : Int64} {l0 l1 l2 l3 l4 l5 l6 l7 l8 l9 l10 : Slot} : W (pj lw) 100 233 (l0 :: l1 :: l2 :: l3 :: l4 :: l5 :: l6 :: l7 :: l8 :: l9 :: l10 :: .val (.long x) :: L) S k n H Q ↔ W (pj lw) 100 235 (l0 :: l1 :: l2 :: l3 :: l4 :: l5 :: l6 :: l7 :: l8 :: l9 :: l10 :: .val (.long x) :: L) (.long x :: S) k n H Q := W_s (rfl : (pj lw).1 100 233 = some (.lload 11, 2, 0)) rfl rfl rfl
theorem w100_235 {x : Int32} {l0 l1 l2 l3 l4 l5 l6 l7 l8 l9 l10 l11 l12 l13 : Slot} : W (pj lw) 100 235 (l0 :: l1 :: l2 :: l3 :: l4 :: l5 :: l6 :: l7 :: l8 :: l9 :: l10 :: l11 :: l12 :: l13 :: .val (.int x) :: L) S k n H Q ↔ W (pj lw) 100 237 (l0 :: l1 :: l2 :: l3 :: l4 :: l5 :: l6 :: l7 :: l8 :: l9 :: l10 :: l11 :: l12 :: l13 :: .val (.int x) :: L) (.int x :: S) k n H Q := W_s (rfl : (pj lw).1 100 235 = some (.iload 14, 2, 0)) rfl rfl rfl
theorem w100_237 {x : Int32} : W (pj lw) 100 237 L (.int x :: S) k n H Q ↔ W (pj lw) 100 238 L (.long x.toInt64 :: S) k n H Q := W_s (rfl : (pj lw).1 100 237 = some (.i2l, 1, 0)) rfl rfl rfl
theorem w100_238 : W (pj lw) 100 238 L S k n H Q ↔ W (pj lw) 100 239 L (.int 2 :: S) k n H Q := W_s (rfl : (pj lw).1 100 238 = some (.iconst 2, 1, 0)) rfl rfl rfl
theorem w100_239 {x : Int32} {l0 l1 l2 l3 l4 l5 l6 l7 l8 l9 l10 l11 l12 : Slot} : W (pj lw) 100 239 (l0 :: l1 :: l2 :: l3 :: l4 :: l5 :: l6 :: l7 :: l8 :: l9 :: l10 :: l11 :: l12 :: .val (.int x) :: L) S k n H Q ↔ W (pj lw) 100 241 (l0 :: l1 :: l2 :: l3 :: l4 :: l5 :: l6 :: l7 :: l8 :: l9 :: l10 :: l11 :: l12 :: .val (.int x) :: L) (.int x :: S) k n H Q := W_s (rfl : (pj lw).1 100 239 = some (.iload 13, 2, 0)) rfl rfl rfl
theorem w100_241 {x y : Int32} : W (pj lw) 100 241 L (.int y :: .int x :: S) k n H Q ↔ W (pj lw) 100 242 L (.int (x * y) :: S) k n H Q := W_s (rfl : (pj lw).1 100 241 = some (.imul, 1, 0)) rfl rfl rfl
theorem w100_242 {x : Int64} {y : Int32} : W (pj lw) 100 242 L (.int y :: .long x :: S) k n H Q ↔ W (pj lw) 100 243 L (.long (x <<< (y.toInt64 &&& 63)) :: S) k n H Q := W_s (rfl : (pj lw).1 100 242 = some (.lshl, 1, 0)) rfl rfl rfl
theorem w100_243 {x y : Int64} : W (pj lw) 100 243 L (.long y :: .long x :: S) k n H Q ↔ W (pj lw) 100 244 L (.long (x ||| y) :: S) k n H Q := W_s (rfl : (pj lw).1 100 243 = some (.lor, 1, 0)) rfl rfl rfl
theorem w100_244j {x y : Int64} {l0 l1 l2 l3 l4 l5 l6 l7 l8 l9 l10 : Slot} : W (pj lw) 100 244 (l0 :: l1 :: l2 :: l3 :: l4 :: l5 :: l6 :: l7 :: l8 :: l9 :: l10 :: .val (.long y) :: .second :: L) (.long x :: S) k n H Q ↔ W (pj lw) 100 246 (l0 :: l1 :: l2 :: l3 :: l4 :: l5 :: l6 :: l7 :: l8 :: l9 :: l10 :: .val (.long x) :: .second :: L) S k n H Q := W_lst' (rfl : (pj lw).1 100 244 = some (.lstore 11, 2, 0)) rfl rfl
theorem w100_246 {x : Nat} {l0 l1 : Slot} : W (pj lw) 100 246 (l0 :: l1 :: .val (.ref x) :: L) S k n H Q ↔ W (pj lw) 100 247 (l0 :: l1 :: .val (.ref x) :: L) (.ref x :: S) k n H Q := W_s (rfl : (pj lw).1 100 246 = some (.aload_n 2, 1, 0)) rfl rfl rfl
theorem w100_247 {x : Int32} {l0 l1 l2 l3 l4 l5 l6 l7 l8 l9 l10 l11 l12 : Slot} : W (pj lw) 100 247 (l0 :: l1 :: l2 :: l3 :: l4 :: l5 :: l6 :: l7 :: l8 :: l9 :: l10 :: l11 :: l12 :: .val (.int x) :: L) S k n H Q ↔ W (pj lw) 100 249 (l0 :: l1 :: l2 :: l3 :: l4 :: l5 :: l6 :: l7 :: l8 :: l9 :: l10 :: l11 :: l12 :: .val (.int x) :: L) (.int x :: S) k n H Q := W_s (rfl : (pj lw).1 100 247 = some (.iload 13, 2, 0)) rfl rfl rfl
theorem w100_249 {a : Nat} {x0 : Int32} : W (pj lw) 100 249 L (.int x0 :: .ref a :: S) k n H Q ↔ ((isO H a = true ∧ cs S + (2 + 11) + 13 ≤ 192) ∧ Cl (pj lw) 12 [.ref a, .int x0] H (fun v H => W (pj lw) 100 252 L (v.toList ++ S) k n H Q)) := W_inst (as := [.int x0]) (rfl : (pj lw).1 100 249 = some (.invokevirtual 39, 3, 12)) rfl rfl rfl (Nat.le_of_ble_eq_true rfl) (Nat.le_of_ble_eq_true rfl) ⟨rfl, rfl⟩
theorem w100_252j {x : Int32} {y : Int64} {l0 l1 l2 l3 l4 l5 l6 l7 l8 l9 l10 l11 l12 l13 l14 l15 : Slot} : W (pj lw) 100 252 (l0 :: l1 :: l2 :: l3 :: l4 :: l5 :: l6 :: l7 :: l8 :: l9 :: l10 :: l11 :: l12 :: l13 :: l14 :: l15 :: .val (.long y) :: .second :: L) (.int x :: S) k n H Q ↔ W (pj lw) 100 254 (l0 :: l1 :: l2 :: l3 :: l4 :: l5 :: l6 :: l7 :: l8 :: l9 :: l10 :: l11 :: l12 :: l13 :: l14 :: l15 :: .val (.int x) :: .unset :: L) S k n H Q := W_ist' (rfl : (pj lw).1 100 252 = some (.istore 16, 2, 0)) rfl rfl
theorem w100_252 {x : Int32} {l0 l1 l2 l3 l4 l5 l6 l7 l8 l9 l10 l11 l12 l13 l14 l15 : Slot} : W (pj lw) 100 252 (l0 :: l1 :: l2 :: l3 :: l4 :: l5 :: l6 :: l7 :: l8 :: l9 :: l10 :: l11 :: l12 :: l13 :: l14 :: l15 :: .unset :: L) (.int x :: S) k n H Q ↔ W (pj lw) 100 254 (l0 :: l1 :: l2 :: l3 :: l4 :: l5 :: l6 :: l7 :: l8 :: l9 :: l10 :: l11 :: l12 :: l13 :: l14 :: l15 :: .val (.int x) :: L) S k n H Q := W_ist (rfl : (pj lw).1 100 252 = some (.istore 16, 2, 0)) rfl rfl
theorem w100_254 {x : Nat} {l0 l1 : Slot} : W (pj lw) 100 254 (l0 :: l1 :: .val (.ref x) :: L) S k n H Q ↔ W (pj lw) 100 255 (l0 :: l1 :: .val (.ref x) :: L) (.ref x :: S) k n H Q := W_s (rfl : (pj lw).1 100 254 = some (.aload_n 2, 1, 0)) rfl rfl rfl
theorem w100_255 {x : Int32} {l0 l1 l2 l3 l4 l5 l6 l7 l8 l9 l10 l11 l12 : Slot} : W (pj lw) 100 255 (l0 :: l1 :: l2 :: l3 :: l4 :: l5 :: l6 :: l7 :: l8 :: l9 :: l10 :: l11 :: l12 :: .val (.int x) :: L) S k n H Q ↔ W (pj lw) 100 257 (l0 :: l1 :: l2 :: l3 :: l4 :: l5 :: l6 :: l7 :: l8 :: l9 :: l10 :: l11 :: l12 :: .val (.int x) :: L) (.int x :: S) k n H Q := W_s (rfl : (pj lw).1 100 255 = some (.iload 13, 2, 0)) rfl rfl rfl
theorem w100_257 {a : Nat} {x0 : Int32} : W (pj lw) 100 257 L (.int x0 :: .ref a :: S) k n H Q ↔ ((isO H a = true ∧ cs S + (2 + 11) + 13 ≤ 192) ∧ Cl (pj lw) 14 [.ref a, .int x0] H (fun v H => W (pj lw) 100 260 L (v.toList ++ S) k n H Q)) := W_inst (as := [.int x0]) (rfl : (pj lw).1 100 257 = some (.invokevirtual 42, 3, 14)) rfl rfl rfl (Nat.le_of_ble_eq_true rfl) (Nat.le_of_ble_eq_true rfl) ⟨rfl, rfl⟩
theorem w100_260 {x : Int32} {l0 l1 l2 l3 l4 l5 l6 l7 l8 l9 l10 l11 l12 l13 l14 l15 l16 : Slot} : W (pj lw) 100 260 (l0 :: l1 :: l2 :: l3 :: l4 :: l5 :: l6 :: l7 :: l8 :: l9 :: l10 :: l11 :: l12 :: l13 :: l14 :: l15 :: l16 :: .unset :: L) (.int x :: S) k n H Q ↔ W (pj lw) 100 262 (l0 :: l1 :: l2 :: l3 :: l4 :: l5 :: l6 :: l7 :: l8 :: l9 :: l10 :: l11 :: l12 :: l13 :: l14 :: l15 :: l16 :: .val (.int x) :: L) S k n H Q := W_ist (rfl : (pj lw).1 100 260 = some (.istore 17, 2, 0)) rfl rfl
theorem w100_262 {x : Nat} {l0 l1 : Slot} : W (pj lw) 100 262 (l0 :: l1 :: .val (.ref x) :: L) S k n H Q ↔ W (pj lw) 100 263 (l0 :: l1 :: .val (.ref x) :: L) (.ref x :: S) k n H Q := W_s (rfl : (pj lw).1 100 262 = some (.aload_n 2, 1, 0)) rfl rfl rfl
theorem w100_263 {x : Int32} {l0 l1 l2 l3 l4 l5 l6 l7 l8 l9 l10 l11 l12 : Slot} : W (pj lw) 100 263 (l0 :: l1 :: l2 :: l3 :: l4 :: l5 :: l6 :: l7 :: l8 :: l9 :: l10 :: l11 :: l12 :: .val (.int x) :: L) S k n H Q ↔ W (pj lw) 100 265 (l0 :: l1 :: l2 :: l3 :: l4 :: l5 :: l6 :: l7 :: l8 :: l9 :: l10 :: l11 :: l12 :: .val (.int x) :: L) (.int x :: S) k n H Q := W_s (rfl : (pj lw).1 100 263 = some (.iload 13, 2, 0)) rfl rfl rfl
theorem w100_265 {a : Nat} {x0 : Int32} : W (pj lw) 100 265 L (.int x0 :: .ref a :: S) k n H Q ↔ ((isO H a = true ∧ cs S + (2 + 11) + 13 ≤ 192) ∧ Cl (pj lw) 13 [.ref a, .int x0] H (fun v H => W (pj lw) 100 268 L (v.toList ++ S) k n H Q)) := W_inst (as := [.int x0]) (rfl : (pj lw).1 100 265 = some (.invokevirtual 45, 3, 13)) rfl rfl rfl (Nat.le_of_ble_eq_true rfl) (Nat.le_of_ble_eq_true rfl) ⟨rfl, rfl⟩
theorem w100_268 {x : Int32} {l0 l1 l2 l3 l4 l5 l6 l7 l8 l9 l10 l11 l12 l13 l14 l15 l16 l17 : Slot} : W (pj lw) 100 268 (l0 :: l1 :: l2 :: l3 :: l4 :: l5 :: l6 :: l7 :: l8 :: l9 :: l10 :: l11 :: l12 :: l13 :: l14 :: l15 :: l16 :: l17 :: .unset :: L) (.int x :: S) k n H Q ↔ W (pj lw) 100 270 (l0 :: l1 :: l2 :: l3 :: l4 :: l5 :: l6 :: l7 :: l8 :: l9 :: l10 :: l11 :: l12 :: l13 :: l14 :: l15 :: l16 :: l17 :: .val (.int x) :: L) S k n H Q := W_ist (rfl : (pj lw).1 100 268 = some (.istore 18, 2, 0)) rfl rfl
theorem w100_270 {x : Int32} {l0 l1 l2 l3 l4 l5 l6 l7 l8 l9 l10 l11 l12 l13 l14 l15 : Slot} : W (pj lw) 100 270 (l0 :: l1 :: l2 :: l3 :: l4 :: l5 :: l6 :: l7 :: l8 :: l9 :: l10 :: l11 :: l12 :: l13 :: l14 :: l15 :: .val (.int x) :: L) S k n H Q ↔ W (pj lw) 100 272 (l0 :: l1 :: l2 :: l3 :: l4 :: l5 :: l6 :: l7 :: l8 :: l9 :: l10 :: l11 :: l12 :: l13 :: l14 :: l15 :: .val (.int x) :: L) (.int x :: S) k n H Q := W_s (rfl : (pj lw).1 100 270 = some (.iload 16, 2, 0)) rfl rfl rfl
theorem w100_272 : W (pj lw) 100 272 L S k n H Q ↔ W (pj lw) 100 274 L (.int (-2) :: S) k n H Q := W_s (rfl : (pj lw).1 100 272 = some (.bipush (-2), 2, 0)) rfl rfl rfl
theorem w100_274 {x y : Int32} : W (pj lw) 100 274 L (.int y :: .int x :: S) k n H Q ↔ (if x = y then W (pj lw) 100 277 L S k n H Q else W (pj lw) 100 281 L S k n H Q) := W_icmp_ne (rfl : (pj lw).1 100 274 = some (.if_icmp .ne 7, 3, 0)) rfl
theorem w100_277 : W (pj lw) 100 277 L S k n H Q ↔ W (pj lw) 100 278 L (.int 1 :: S) k n H Q := W_s (rfl : (pj lw).1 100 277 = some (.iconst 1, 1, 0)) rfl rfl rfl
theorem w100_278 : W (pj lw) 100 278 L S k n H Q ↔ W (pj lw) 100 282 L S k n H Q := W_goto (rfl : (pj lw).1 100 278 = some (.goto 4, 3, 0)) rfl
theorem w100_281 : W (pj lw) 100 281 L S k n H Q ↔ W (pj lw) 100 282 L (.int 0 :: S) k n H Q := W_s (rfl : (pj lw).1 100 281 = some (.iconst 0, 1, 0)) rfl rfl rfl
theorem w100_282 {x : Int32} {l0 l1 l2 l3 l4 l5 l6 l7 l8 l9 l10 l11 l12 l13 : Slot} : W (pj lw) 100 282 (l0 :: l1 :: l2 :: l3 :: l4 :: l5 :: l6 :: l7 :: l8 :: l9 :: l10 :: l11 :: l12 :: l13 :: .val (.int x) :: L) S k n H Q ↔ W (pj lw) 100 284 (l0 :: l1 :: l2 :: l3 :: l4 :: l5 :: l6 :: l7 :: l8 :: l9 :: l10 :: l11 :: l12 :: l13 :: .val (.int x) :: L) (.int x :: S) k n H Q := W_s (rfl : (pj lw).1 100 282 = some (.iload 14, 2, 0)) rfl rfl rfl
theorem w100_284 {x : Int32} : W (pj lw) 100 284 L (.int x :: S) k n H Q ↔ (if x = 0 then W (pj lw) 100 287 L S k n H Q else W (pj lw) 100 291 L S k n H Q) := W_if_ne (rfl : (pj lw).1 100 284 = some (.ifCond .ne 7, 3, 0)) rfl
theorem w100_287 : W (pj lw) 100 287 L S k n H Q ↔ W (pj lw) 100 288 L (.int 1 :: S) k n H Q := W_s (rfl : (pj lw).1 100 287 = some (.iconst 1, 1, 0)) rfl rfl rfl
theorem w100_288 : W (pj lw) 100 288 L S k n H Q ↔ W (pj lw) 100 292 L S k n H Q := W_goto (rfl : (pj lw).1 100 288 = some (.goto 4, 3, 0)) rfl
theorem w100_291 : W (pj lw) 100 291 L S k n H Q ↔ W (pj lw) 100 292 L (.int 0 :: S) k n H Q := W_s (rfl : (pj lw).1 100 291 = some (.iconst 0, 1, 0)) rfl rfl rfl
theorem w100_292 {x y : Int32} : W (pj lw) 100 292 L (.int y :: .int x :: S) k n H Q ↔ (if x = y then W (pj lw) 100 297 L S k n H Q else W (pj lw) 100 295 L S k n H Q) := W_icmp_eq (rfl : (pj lw).1 100 292 = some (.if_icmp .eq 5, 3, 0)) rfl
theorem w100_297 {x : Int32} {l0 l1 l2 l3 l4 l5 l6 l7 l8 l9 l10 l11 l12 l13 l14 l15 : Slot} : W (pj lw) 100 297 (l0 :: l1 :: l2 :: l3 :: l4 :: l5 :: l6 :: l7 :: l8 :: l9 :: l10 :: l11 :: l12 :: l13 :: l14 :: l15 :: .val (.int x) :: L) S k n H Q ↔ W (pj lw) 100 299 (l0 :: l1 :: l2 :: l3 :: l4 :: l5 :: l6 :: l7 :: l8 :: l9 :: l10 :: l11 :: l12 :: l13 :: l14 :: l15 :: .val (.int x) :: L) (.int x :: S) k n H Q := W_s (rfl : (pj lw).1 100 297 = some (.iload 16, 2, 0)) rfl rfl rfl
theorem w100_299 : W (pj lw) 100 299 L S k n H Q ↔ W (pj lw) 100 300 L (.int (-1) :: S) k n H Q := W_s (rfl : (pj lw).1 100 299 = some (.iconst (-1), 1, 0)) rfl rfl rfl
theorem w100_300 {x y : Int32} : W (pj lw) 100 300 L (.int y :: .int x :: S) k n H Q ↔ (if x = y then W (pj lw) 100 303 L S k n H Q else W (pj lw) 100 307 L S k n H Q) := W_icmp_ne (rfl : (pj lw).1 100 300 = some (.if_icmp .ne 7, 3, 0)) rfl
theorem w100_303 : W (pj lw) 100 303 L S k n H Q ↔ W (pj lw) 100 304 L (.int 1 :: S) k n H Q := W_s (rfl : (pj lw).1 100 303 = some (.iconst 1, 1, 0)) rfl rfl rfl
theorem w100_304 : W (pj lw) 100 304 L S k n H Q ↔ W (pj lw) 100 308 L S k n H Q := W_goto (rfl : (pj lw).1 100 304 = some (.goto 4, 3, 0)) rfl
theorem w100_307 : W (pj lw) 100 307 L S k n H Q ↔ W (pj lw) 100 308 L (.int 0 :: S) k n H Q := W_s (rfl : (pj lw).1 100 307 = some (.iconst 0, 1, 0)) rfl rfl rfl
theorem w100_308 {x : Int32} {l0 l1 l2 l3 l4 l5 l6 l7 l8 l9 l10 l11 l12 l13 l14 l15 l16 : Slot} : W (pj lw) 100 308 (l0 :: l1 :: l2 :: l3 :: l4 :: l5 :: l6 :: l7 :: l8 :: l9 :: l10 :: l11 :: l12 :: l13 :: l14 :: l15 :: l16 :: .val (.int x) :: L) S k n H Q ↔ W (pj lw) 100 310 (l0 :: l1 :: l2 :: l3 :: l4 :: l5 :: l6 :: l7 :: l8 :: l9 :: l10 :: l11 :: l12 :: l13 :: l14 :: l15 :: l16 :: .val (.int x) :: L) (.int x :: S) k n H Q := W_s (rfl : (pj lw).1 100 308 = some (.iload 17, 2, 0)) rfl rfl rfl
theorem w100_310 {x : Int32} : W (pj lw) 100 310 L (.int x :: S) k n H Q ↔ (if x = 0 then W (pj lw) 100 313 L S k n H Q else W (pj lw) 100 317 L S k n H Q) := W_if_ne (rfl : (pj lw).1 100 310 = some (.ifCond .ne 7, 3, 0)) rfl
theorem w100_313 : W (pj lw) 100 313 L S k n H Q ↔ W (pj lw) 100 314 L (.int 1 :: S) k n H Q := W_s (rfl : (pj lw).1 100 313 = some (.iconst 1, 1, 0)) rfl rfl rfl
theorem w100_314 : W (pj lw) 100 314 L S k n H Q ↔ W (pj lw) 100 318 L S k n H Q := W_goto (rfl : (pj lw).1 100 314 = some (.goto 4, 3, 0)) rfl
theorem w100_317 : W (pj lw) 100 317 L S k n H Q ↔ W (pj lw) 100 318 L (.int 0 :: S) k n H Q := W_s (rfl : (pj lw).1 100 317 = some (.iconst 0, 1, 0)) rfl rfl rfl
theorem w100_318 {x y : Int32} : W (pj lw) 100 318 L (.int y :: .int x :: S) k n H Q ↔ (if x = y then W (pj lw) 100 323 L S k n H Q else W (pj lw) 100 321 L S k n H Q) := W_icmp_eq (rfl : (pj lw).1 100 318 = some (.if_icmp .eq 5, 3, 0)) rfl
theorem w100_323 {x : Int32} {l0 l1 l2 l3 l4 l5 l6 l7 l8 l9 l10 l11 l12 l13 l14 l15 : Slot} : W (pj lw) 100 323 (l0 :: l1 :: l2 :: l3 :: l4 :: l5 :: l6 :: l7 :: l8 :: l9 :: l10 :: l11 :: l12 :: l13 :: l14 :: l15 :: .val (.int x) :: L) S k n H Q ↔ W (pj lw) 100 325 (l0 :: l1 :: l2 :: l3 :: l4 :: l5 :: l6 :: l7 :: l8 :: l9 :: l10 :: l11 :: l12 :: l13 :: l14 :: l15 :: .val (.int x) :: L) (.int x :: S) k n H Q := W_s (rfl : (pj lw).1 100 323 = some (.iload 16, 2, 0)) rfl rfl rfl
theorem w100_325 : W (pj lw) 100 325 L S k n H Q ↔ W (pj lw) 100 327 L (.int (-2) :: S) k n H Q := W_s (rfl : (pj lw).1 100 325 = some (.bipush (-2), 2, 0)) rfl rfl rfl
theorem w100_327 {x y : Int32} : W (pj lw) 100 327 L (.int y :: .int x :: S) k n H Q ↔ (if x = y then W (pj lw) 100 330 L S k n H Q else W (pj lw) 100 344 L S k n H Q) := W_icmp_ne (rfl : (pj lw).1 100 327 = some (.if_icmp .ne 17, 3, 0)) rfl
theorem w100_330 {x : Int32} {l0 l1 l2 l3 l4 l5 l6 l7 l8 l9 l10 l11 l12 l13 l14 l15 l16 : Slot} : W (pj lw) 100 330 (l0 :: l1 :: l2 :: l3 :: l4 :: l5 :: l6 :: l7 :: l8 :: l9 :: l10 :: l11 :: l12 :: l13 :: l14 :: l15 :: l16 :: .val (.int x) :: L) S k n H Q ↔ W (pj lw) 100 332 (l0 :: l1 :: l2 :: l3 :: l4 :: l5 :: l6 :: l7 :: l8 :: l9 :: l10 :: l11 :: l12 :: l13 :: l14 :: l15 :: l16 :: .val (.int x) :: L) (.int x :: S) k n H Q := W_s (rfl : (pj lw).1 100 330 = some (.iload 17, 2, 0)) rfl rfl rfl
theorem w100_332 : W (pj lw) 100 332 L S k n H Q ↔ W (pj lw) 100 333 L (.int (-1) :: S) k n H Q := W_s (rfl : (pj lw).1 100 332 = some (.iconst (-1), 1, 0)) rfl rfl rfl
theorem w100_333 {x y : Int32} : W (pj lw) 100 333 L (.int y :: .int x :: S) k n H Q ↔ (if x = y then W (pj lw) 100 336 L S k n H Q else W (pj lw) 100 342 L S k n H Q) := W_icmp_ne (rfl : (pj lw).1 100 333 = some (.if_icmp .ne 9, 3, 0)) rfl
theorem w100_336 {x : Int32} {l0 l1 l2 l3 l4 l5 l6 l7 l8 l9 l10 l11 l12 l13 l14 l15 l16 l17 : Slot} : W (pj lw) 100 336 (l0 :: l1 :: l2 :: l3 :: l4 :: l5 :: l6 :: l7 :: l8 :: l9 :: l10 :: l11 :: l12 :: l13 :: l14 :: l15 :: l16 :: l17 :: .val (.int x) :: L) S k n H Q ↔ W (pj lw) 100 338 (l0 :: l1 :: l2 :: l3 :: l4 :: l5 :: l6 :: l7 :: l8 :: l9 :: l10 :: l11 :: l12 :: l13 :: l14 :: l15 :: l16 :: l17 :: .val (.int x) :: L) (.int x :: S) k n H Q := W_s (rfl : (pj lw).1 100 336 = some (.iload 18, 2, 0)) rfl rfl rfl
theorem w100_338 : W (pj lw) 100 338 L S k n H Q ↔ W (pj lw) 100 339 L (.int (-1) :: S) k n H Q := W_s (rfl : (pj lw).1 100 338 = some (.iconst (-1), 1, 0)) rfl rfl rfl
theorem w100_339 {x y : Int32} : W (pj lw) 100 339 L (.int y :: .int x :: S) k n H Q ↔ (if x = y then W (pj lw) 100 459 L S k n H Q else W (pj lw) 100 342 L S k n H Q) := W_icmp_eq (rfl : (pj lw).1 100 339 = some (.if_icmp .eq 120, 3, 0)) rfl
theorem w100_344 {x : Int32} {l0 l1 l2 l3 l4 l5 l6 l7 l8 l9 l10 l11 l12 l13 l14 l15 : Slot} : W (pj lw) 100 344 (l0 :: l1 :: l2 :: l3 :: l4 :: l5 :: l6 :: l7 :: l8 :: l9 :: l10 :: l11 :: l12 :: l13 :: l14 :: l15 :: .val (.int x) :: L) S k n H Q ↔ W (pj lw) 100 346 (l0 :: l1 :: l2 :: l3 :: l4 :: l5 :: l6 :: l7 :: l8 :: l9 :: l10 :: l11 :: l12 :: l13 :: l14 :: l15 :: .val (.int x) :: L) (.int x :: S) k n H Q := W_s (rfl : (pj lw).1 100 344 = some (.iload 16, 2, 0)) rfl rfl rfl
theorem w100_346 : W (pj lw) 100 346 L S k n H Q ↔ W (pj lw) 100 347 L (.int (-1) :: S) k n H Q := W_s (rfl : (pj lw).1 100 346 = some (.iconst (-1), 1, 0)) rfl rfl rfl
theorem w100_347 {x y : Int32} : W (pj lw) 100 347 L (.int y :: .int x :: S) k n H Q ↔ (if x = y then W (pj lw) 100 350 L S k n H Q else W (pj lw) 100 364 L S k n H Q) := W_icmp_ne (rfl : (pj lw).1 100 347 = some (.if_icmp .ne 17, 3, 0)) rfl
theorem w100_350 {x : Int32} {l0 l1 l2 l3 l4 l5 l6 l7 l8 l9 l10 l11 l12 l13 l14 l15 l16 l17 : Slot} : W (pj lw) 100 350 (l0 :: l1 :: l2 :: l3 :: l4 :: l5 :: l6 :: l7 :: l8 :: l9 :: l10 :: l11 :: l12 :: l13 :: l14 :: l15 :: l16 :: l17 :: .val (.int x) :: L) S k n H Q ↔ W (pj lw) 100 352 (l0 :: l1 :: l2 :: l3 :: l4 :: l5 :: l6 :: l7 :: l8 :: l9 :: l10 :: l11 :: l12 :: l13 :: l14 :: l15 :: l16 :: l17 :: .val (.int x) :: L) (.int x :: S) k n H Q := W_s (rfl : (pj lw).1 100 350 = some (.iload 18, 2, 0)) rfl rfl rfl
theorem w100_352 {x : Int32} : W (pj lw) 100 352 L (.int x :: S) k n H Q ↔ (if x < 0 then W (pj lw) 100 362 L S k n H Q else W (pj lw) 100 355 L S k n H Q) := W_if_lt (rfl : (pj lw).1 100 352 = some (.ifCond .lt 10, 3, 0)) rfl
theorem w100_355 {x : Int32} {l0 l1 l2 l3 l4 l5 l6 l7 l8 l9 l10 l11 l12 l13 l14 l15 l16 l17 : Slot} : W (pj lw) 100 355 (l0 :: l1 :: l2 :: l3 :: l4 :: l5 :: l6 :: l7 :: l8 :: l9 :: l10 :: l11 :: l12 :: l13 :: l14 :: l15 :: l16 :: l17 :: .val (.int x) :: L) S k n H Q ↔ W (pj lw) 100 357 (l0 :: l1 :: l2 :: l3 :: l4 :: l5 :: l6 :: l7 :: l8 :: l9 :: l10 :: l11 :: l12 :: l13 :: l14 :: l15 :: l16 :: l17 :: .val (.int x) :: L) (.int x :: S) k n H Q := W_s (rfl : (pj lw).1 100 355 = some (.iload 18, 2, 0)) rfl rfl rfl
theorem w100_357 {x : Int32} {l0 l1 l2 l3 l4 l5 l6 l7 : Slot} : W (pj lw) 100 357 (l0 :: l1 :: l2 :: l3 :: l4 :: l5 :: l6 :: l7 :: .val (.int x) :: L) S k n H Q ↔ W (pj lw) 100 359 (l0 :: l1 :: l2 :: l3 :: l4 :: l5 :: l6 :: l7 :: .val (.int x) :: L) (.int x :: S) k n H Q := W_s (rfl : (pj lw).1 100 357 = some (.iload 8, 2, 0)) rfl rfl rfl
theorem w100_359 {x y : Int32} : W (pj lw) 100 359 L (.int y :: .int x :: S) k n H Q ↔ (if y < x then W (pj lw) 100 362 L S k n H Q else W (pj lw) 100 459 L S k n H Q) := W_icmp_le (rfl : (pj lw).1 100 359 = some (.if_icmp .le 100, 3, 0)) rfl
theorem w100_364 {x : Int32} {l0 l1 l2 l3 l4 l5 l6 l7 l8 l9 l10 l11 l12 l13 l14 l15 : Slot} : W (pj lw) 100 364 (l0 :: l1 :: l2 :: l3 :: l4 :: l5 :: l6 :: l7 :: l8 :: l9 :: l10 :: l11 :: l12 :: l13 :: l14 :: l15 :: .val (.int x) :: L) S k n H Q ↔ W (pj lw) 100 366 (l0 :: l1 :: l2 :: l3 :: l4 :: l5 :: l6 :: l7 :: l8 :: l9 :: l10 :: l11 :: l12 :: l13 :: l14 :: l15 :: .val (.int x) :: L) (.int x :: S) k n H Q := W_s (rfl : (pj lw).1 100 364 = some (.iload 16, 2, 0)) rfl rfl rfl
theorem w100_366 {x : Int32} : W (pj lw) 100 366 L (.int x :: S) k n H Q ↔ (if x < 0 then W (pj lw) 100 382 L S k n H Q else W (pj lw) 100 369 L S k n H Q) := W_if_lt (rfl : (pj lw).1 100 366 = some (.ifCond .lt 16, 3, 0)) rfl
theorem w100_369 {x : Int32} {l0 l1 l2 l3 l4 l5 l6 l7 l8 l9 l10 l11 l12 l13 l14 l15 : Slot} : W (pj lw) 100 369 (l0 :: l1 :: l2 :: l3 :: l4 :: l5 :: l6 :: l7 :: l8 :: l9 :: l10 :: l11 :: l12 :: l13 :: l14 :: l15 :: .val (.int x) :: L) S k n H Q ↔ W (pj lw) 100 371 (l0 :: l1 :: l2 :: l3 :: l4 :: l5 :: l6 :: l7 :: l8 :: l9 :: l10 :: l11 :: l12 :: l13 :: l14 :: l15 :: .val (.int x) :: L) (.int x :: S) k n H Q := W_s (rfl : (pj lw).1 100 369 = some (.iload 16, 2, 0)) rfl rfl rfl
theorem w100_371 {x : Int32} {l0 : Slot} : W (pj lw) 100 371 (l0 :: .val (.int x) :: L) S k n H Q ↔ W (pj lw) 100 372 (l0 :: .val (.int x) :: L) (.int x :: S) k n H Q := W_s (rfl : (pj lw).1 100 371 = some (.iload_n 1, 1, 0)) rfl rfl rfl
theorem w100_372 {x y : Int32} : W (pj lw) 100 372 L (.int y :: .int x :: S) k n H Q ↔ (if x < y then W (pj lw) 100 375 L S k n H Q else W (pj lw) 100 382 L S k n H Q) := W_icmp_ge (rfl : (pj lw).1 100 372 = some (.if_icmp .ge 10, 3, 0)) rfl
theorem w100_375 {x : Int32} {l0 l1 l2 l3 l4 l5 l6 l7 l8 l9 l10 l11 l12 l13 l14 l15 : Slot} : W (pj lw) 100 375 (l0 :: l1 :: l2 :: l3 :: l4 :: l5 :: l6 :: l7 :: l8 :: l9 :: l10 :: l11 :: l12 :: l13 :: l14 :: l15 :: .val (.int x) :: L) S k n H Q ↔ W (pj lw) 100 377 (l0 :: l1 :: l2 :: l3 :: l4 :: l5 :: l6 :: l7 :: l8 :: l9 :: l10 :: l11 :: l12 :: l13 :: l14 :: l15 :: .val (.int x) :: L) (.int x :: S) k n H Q := W_s (rfl : (pj lw).1 100 375 = some (.iload 16, 2, 0)) rfl rfl rfl
theorem w100_377 {x : Int32} {l0 l1 l2 l3 l4 l5 l6 l7 l8 l9 l10 l11 l12 : Slot} : W (pj lw) 100 377 (l0 :: l1 :: l2 :: l3 :: l4 :: l5 :: l6 :: l7 :: l8 :: l9 :: l10 :: l11 :: l12 :: .val (.int x) :: L) S k n H Q ↔ W (pj lw) 100 379 (l0 :: l1 :: l2 :: l3 :: l4 :: l5 :: l6 :: l7 :: l8 :: l9 :: l10 :: l11 :: l12 :: .val (.int x) :: L) (.int x :: S) k n H Q := W_s (rfl : (pj lw).1 100 377 = some (.iload 13, 2, 0)) rfl rfl rfl
theorem w100_379 {x y : Int32} : W (pj lw) 100 379 L (.int y :: .int x :: S) k n H Q ↔ (if x = y then W (pj lw) 100 382 L S k n H Q else W (pj lw) 100 384 L S k n H Q) := W_icmp_ne (rfl : (pj lw).1 100 379 = some (.if_icmp .ne 5, 3, 0)) rfl
theorem w100_384 {x : Int64} {l0 l1 l2 : Slot} : W (pj lw) 100 384 (l0 :: l1 :: l2 :: .val (.long x) :: L) S k n H Q ↔ W (pj lw) 100 385 (l0 :: l1 :: l2 :: .val (.long x) :: L) (.long x :: S) k n H Q := W_s (rfl : (pj lw).1 100 384 = some (.lload_n 3, 1, 0)) rfl rfl rfl
theorem w100_385 {x : Int32} {l0 l1 l2 l3 l4 l5 l6 l7 l8 l9 l10 l11 l12 : Slot} : W (pj lw) 100 385 (l0 :: l1 :: l2 :: l3 :: l4 :: l5 :: l6 :: l7 :: l8 :: l9 :: l10 :: l11 :: l12 :: .val (.int x) :: L) S k n H Q ↔ W (pj lw) 100 387 (l0 :: l1 :: l2 :: l3 :: l4 :: l5 :: l6 :: l7 :: l8 :: l9 :: l10 :: l11 :: l12 :: .val (.int x) :: L) (.int x :: S) k n H Q := W_s (rfl : (pj lw).1 100 385 = some (.iload 13, 2, 0)) rfl rfl rfl
theorem w100_387 {x : Int32} {l0 l1 l2 l3 l4 l5 l6 l7 l8 l9 l10 l11 l12 l13 l14 l15 : Slot} : W (pj lw) 100 387 (l0 :: l1 :: l2 :: l3 :: l4 :: l5 :: l6 :: l7 :: l8 :: l9 :: l10 :: l11 :: l12 :: l13 :: l14 :: l15 :: .val (.int x) :: L) S k n H Q ↔ W (pj lw) 100 389 (l0 :: l1 :: l2 :: l3 :: l4 :: l5 :: l6 :: l7 :: l8 :: l9 :: l10 :: l11 :: l12 :: l13 :: l14 :: l15 :: .val (.int x) :: L) (.int x :: S) k n H Q := W_s (rfl : (pj lw).1 100 387 = some (.iload 16, 2, 0)) rfl rfl rfl
theorem w100_389 {x0 : Int32} {x1 : Int32} : W (pj lw) 100 389 L (.int x1 :: .int x0 :: S) k n H Q ↔ (cs S + (4 + 11) + 0 ≤ 192 ∧ Cl (pj lw) 104 [.int x0, .int x1] H (fun v H => W (pj lw) 100 392 L (v.toList ++ S) k n H Q)) := W_stat (a := [.int x0, .int x1]) (rfl : (pj lw).1 100 389 = some (.invokestatic 48, 3, 104)) rfl rfl rfl (Nat.le_of_ble_eq_true rfl) (Nat.le_of_ble_eq_true rfl) ⟨rfl, rfl⟩
theorem w100_392 {x : Int64} {y : Int32} : W (pj lw) 100 392 L (.int y :: .long x :: S) k n H Q ↔ W (pj lw) 100 393 L (.long (Jvm.Free.XT.ushrL x y) :: S) k n H Q := W_s (rfl : (pj lw).1 100 392 = some (.lushr, 1, 0)) rfl rfl rfl
theorem w100_393 : W (pj lw) 100 393 L S k n H Q ↔ W (pj lw) 100 394 L (.long 1 :: S) k n H Q := W_s (rfl : (pj lw).1 100 393 = some (.lconst 1, 1, 0)) rfl rfl rfl
theorem w100_394 {x y : Int64} : W (pj lw) 100 394 L (.long y :: .long x :: S) k n H Q ↔ W (pj lw) 100 395 L (.long (x &&& y) :: S) k n H Q := W_s (rfl : (pj lw).1 100 394 = some (.land, 1, 0)) rfl rfl rfl
theorem w100_395 : W (pj lw) 100 395 L S k n H Q ↔ W (pj lw) 100 396 L (.long 0 :: S) k n H Q := W_s (rfl : (pj lw).1 100 395 = some (.lconst 0, 1, 0)) rfl rfl rfl
theorem w100_396 {x y : Int64} : W (pj lw) 100 396 L (.long y :: .long x :: S) k n H Q ↔ W (pj lw) 100 397 L (.int (Jvm.Free.XT.cmpL x y) :: S) k n H Q := W_s (rfl : (pj lw).1 100 396 = some (.lcmp, 1, 0)) rfl rfl rfl
theorem w100_397 {x : Int32} : W (pj lw) 100 397 L (.int x :: S) k n H Q ↔ (if x = 0 then W (pj lw) 100 400 L S k n H Q else W (pj lw) 100 402 L S k n H Q) := W_if_ne (rfl : (pj lw).1 100 397 = some (.ifCond .ne 5, 3, 0)) rfl
theorem w100_402 {x : Int32} {l0 l1 l2 l3 l4 l5 l6 l7 l8 l9 l10 l11 l12 l13 l14 l15 l16 : Slot} : W (pj lw) 100 402 (l0 :: l1 :: l2 :: l3 :: l4 :: l5 :: l6 :: l7 :: l8 :: l9 :: l10 :: l11 :: l12 :: l13 :: l14 :: l15 :: l16 :: .val (.int x) :: L) S k n H Q ↔ W (pj lw) 100 404 (l0 :: l1 :: l2 :: l3 :: l4 :: l5 :: l6 :: l7 :: l8 :: l9 :: l10 :: l11 :: l12 :: l13 :: l14 :: l15 :: l16 :: .val (.int x) :: L) (.int x :: S) k n H Q := W_s (rfl : (pj lw).1 100 402 = some (.iload 17, 2, 0)) rfl rfl rfl
theorem w100_404 {x : Nat} {l0 l1 : Slot} : W (pj lw) 100 404 (l0 :: l1 :: .val (.ref x) :: L) S k n H Q ↔ W (pj lw) 100 405 (l0 :: l1 :: .val (.ref x) :: L) (.ref x :: S) k n H Q := W_s (rfl : (pj lw).1 100 404 = some (.aload_n 2, 1, 0)) rfl rfl rfl
theorem w100_405 {x : Int32} {l0 l1 l2 l3 l4 l5 l6 l7 l8 l9 l10 l11 l12 l13 l14 l15 : Slot} : W (pj lw) 100 405 (l0 :: l1 :: l2 :: l3 :: l4 :: l5 :: l6 :: l7 :: l8 :: l9 :: l10 :: l11 :: l12 :: l13 :: l14 :: l15 :: .val (.int x) :: L) S k n H Q ↔ W (pj lw) 100 407 (l0 :: l1 :: l2 :: l3 :: l4 :: l5 :: l6 :: l7 :: l8 :: l9 :: l10 :: l11 :: l12 :: l13 :: l14 :: l15 :: .val (.int x) :: L) (.int x :: S) k n H Q := W_s (rfl : (pj lw).1 100 405 = some (.iload 16, 2, 0)) rfl rfl rfl
theorem w100_407 {a : Nat} {x0 : Int32} : W (pj lw) 100 407 L (.int x0 :: .ref a :: S) k n H Q ↔ ((isO H a = true ∧ cs S + (2 + 11) + 13 ≤ 192) ∧ Cl (pj lw) 14 [.ref a, .int x0] H (fun v H => W (pj lw) 100 410 L (v.toList ++ S) k n H Q)) := W_inst (as := [.int x0]) (rfl : (pj lw).1 100 407 = some (.invokevirtual 42, 3, 14)) rfl rfl rfl (Nat.le_of_ble_eq_true rfl) (Nat.le_of_ble_eq_true rfl) ⟨rfl, rfl⟩
theorem w100_410 : W (pj lw) 100 410 L S k n H Q ↔ W (pj lw) 100 411 L (.int 1 :: S) k n H Q := W_s (rfl : (pj lw).1 100 410 = some (.iconst 1, 1, 0)) rfl rfl rfl
theorem w100_411 {x y : Int32} : W (pj lw) 100 411 L (.int y :: .int x :: S) k n H Q ↔ W (pj lw) 100 412 L (.int (x + y) :: S) k n H Q := W_s (rfl : (pj lw).1 100 411 = some (.iadd, 1, 0)) rfl rfl rfl
theorem w100_412 {x y : Int32} : W (pj lw) 100 412 L (.int y :: .int x :: S) k n H Q ↔ (if x = y then W (pj lw) 100 417 L S k n H Q else W (pj lw) 100 415 L S k n H Q) := W_icmp_eq (rfl : (pj lw).1 100 412 = some (.if_icmp .eq 5, 3, 0)) rfl
theorem w100_417 {x : Nat} {l0 l1 : Slot} : W (pj lw) 100 417 (l0 :: l1 :: .val (.ref x) :: L) S k n H Q ↔ W (pj lw) 100 418 (l0 :: l1 :: .val (.ref x) :: L) (.ref x :: S) k n H Q := W_s (rfl : (pj lw).1 100 417 = some (.aload_n 2, 1, 0)) rfl rfl rfl
theorem w100_418 {x : Int32} {l0 l1 l2 l3 l4 l5 l6 l7 l8 l9 l10 l11 l12 l13 l14 l15 : Slot} : W (pj lw) 100 418 (l0 :: l1 :: l2 :: l3 :: l4 :: l5 :: l6 :: l7 :: l8 :: l9 :: l10 :: l11 :: l12 :: l13 :: l14 :: l15 :: .val (.int x) :: L) S k n H Q ↔ W (pj lw) 100 420 (l0 :: l1 :: l2 :: l3 :: l4 :: l5 :: l6 :: l7 :: l8 :: l9 :: l10 :: l11 :: l12 :: l13 :: l14 :: l15 :: .val (.int x) :: L) (.int x :: S) k n H Q := W_s (rfl : (pj lw).1 100 418 = some (.iload 16, 2, 0)) rfl rfl rfl
theorem w100_420 {a : Nat} {x0 : Int32} : W (pj lw) 100 420 L (.int x0 :: .ref a :: S) k n H Q ↔ ((isO H a = true ∧ cs S + (2 + 11) + 13 ≤ 192) ∧ Cl (pj lw) 13 [.ref a, .int x0] H (fun v H => W (pj lw) 100 423 L (v.toList ++ S) k n H Q)) := W_inst (as := [.int x0]) (rfl : (pj lw).1 100 420 = some (.invokevirtual 45, 3, 13)) rfl rfl rfl (Nat.le_of_ble_eq_true rfl) (Nat.le_of_ble_eq_true rfl) ⟨rfl, rfl⟩
theorem w100_423 {x : Int32} {l0 l1 l2 l3 l4 l5 l6 l7 l8 l9 l10 l11 l12 l13 l14 l15 l16 l17 : Slot} : W (pj lw) 100 423 (l0 :: l1 :: l2 :: l3 :: l4 :: l5 :: l6 :: l7 :: l8 :: l9 :: l10 :: l11 :: l12 :: l13 :: l14 :: l15 :: l16 :: l17 :: .val (.int x) :: L) S k n H Q ↔ W (pj lw) 100 425 (l0 :: l1 :: l2 :: l3 :: l4 :: l5 :: l6 :: l7 :: l8 :: l9 :: l10 :: l11 :: l12 :: l13 :: l14 :: l15 :: l16 :: l17 :: .val (.int x) :: L) (.int x :: S) k n H Q := W_s (rfl : (pj lw).1 100 423 = some (.iload 18, 2, 0)) rfl rfl rfl
theorem w100_425 {x y : Int32} : W (pj lw) 100 425 L (.int y :: .int x :: S) k n H Q ↔ (if x < y then W (pj lw) 100 428 L S k n H Q else W (pj lw) 100 435 L S k n H Q) := W_icmp_ge (rfl : (pj lw).1 100 425 = some (.if_icmp .ge 10, 3, 0)) rfl
theorem w100_428 {x : Int32} {l0 l1 l2 l3 l4 l5 l6 l7 l8 l9 l10 l11 l12 l13 l14 l15 l16 l17 : Slot} : W (pj lw) 100 428 (l0 :: l1 :: l2 :: l3 :: l4 :: l5 :: l6 :: l7 :: l8 :: l9 :: l10 :: l11 :: l12 :: l13 :: l14 :: l15 :: l16 :: l17 :: .val (.int x) :: L) S k n H Q ↔ W (pj lw) 100 430 (l0 :: l1 :: l2 :: l3 :: l4 :: l5 :: l6 :: l7 :: l8 :: l9 :: l10 :: l11 :: l12 :: l13 :: l14 :: l15 :: l16 :: l17 :: .val (.int x) :: L) (.int x :: S) k n H Q := W_s (rfl : (pj lw).1 100 428 = some (.iload 18, 2, 0)) rfl rfl rfl
theorem w100_430 {x : Int32} {l0 l1 l2 l3 l4 l5 l6 l7 : Slot} : W (pj lw) 100 430 (l0 :: l1 :: l2 :: l3 :: l4 :: l5 :: l6 :: l7 :: .val (.int x) :: L) S k n H Q ↔ W (pj lw) 100 432 (l0 :: l1 :: l2 :: l3 :: l4 :: l5 :: l6 :: l7 :: .val (.int x) :: L) (.int x :: S) k n H Q := W_s (rfl : (pj lw).1 100 430 = some (.iload 8, 2, 0)) rfl rfl rfl
theorem w100_432 {x y : Int32} : W (pj lw) 100 432 L (.int y :: .int x :: S) k n H Q ↔ (if y < x then W (pj lw) 100 435 L S k n H Q else W (pj lw) 100 437 L S k n H Q) := W_icmp_le (rfl : (pj lw).1 100 432 = some (.if_icmp .le 5, 3, 0)) rfl
theorem w100_437 {x : Nat} {l0 l1 : Slot} : W (pj lw) 100 437 (l0 :: l1 :: .val (.ref x) :: L) S k n H Q ↔ W (pj lw) 100 438 (l0 :: l1 :: .val (.ref x) :: L) (.ref x :: S) k n H Q := W_s (rfl : (pj lw).1 100 437 = some (.aload_n 2, 1, 0)) rfl rfl rfl
theorem w100_438 {x : Int32} {l0 l1 l2 l3 l4 l5 l6 l7 l8 l9 l10 l11 l12 l13 l14 l15 : Slot} : W (pj lw) 100 438 (l0 :: l1 :: l2 :: l3 :: l4 :: l5 :: l6 :: l7 :: l8 :: l9 :: l10 :: l11 :: l12 :: l13 :: l14 :: l15 :: .val (.int x) :: L) S k n H Q ↔ W (pj lw) 100 440 (l0 :: l1 :: l2 :: l3 :: l4 :: l5 :: l6 :: l7 :: l8 :: l9 :: l10 :: l11 :: l12 :: l13 :: l14 :: l15 :: .val (.int x) :: L) (.int x :: S) k n H Q := W_s (rfl : (pj lw).1 100 438 = some (.iload 16, 2, 0)) rfl rfl rfl
theorem w100_440 {a : Nat} {x0 : Int32} : W (pj lw) 100 440 L (.int x0 :: .ref a :: S) k n H Q ↔ ((isO H a = true ∧ cs S + (2 + 11) + 13 ≤ 192) ∧ Cl (pj lw) 8 [.ref a, .int x0] H (fun v H => W (pj lw) 100 443 L (v.toList ++ S) k n H Q)) := W_inst (as := [.int x0]) (rfl : (pj lw).1 100 440 = some (.invokevirtual 34, 3, 8)) rfl rfl rfl (Nat.le_of_ble_eq_true rfl) (Nat.le_of_ble_eq_true rfl) ⟨rfl, rfl⟩
theorem w100_443 {x : Int32} {l0 l1 l2 l3 l4 l5 l6 l7 l8 l9 l10 l11 l12 l13 l14 l15 l16 l17 l18 : Slot} : W (pj lw) 100 443 (l0 :: l1 :: l2 :: l3 :: l4 :: l5 :: l6 :: l7 :: l8 :: l9 :: l10 :: l11 :: l12 :: l13 :: l14 :: l15 :: l16 :: l17 :: l18 :: .unset :: L) (.int x :: S) k n H Q ↔ W (pj lw) 100 445 (l0 :: l1 :: l2 :: l3 :: l4 :: l5 :: l6 :: l7 :: l8 :: l9 :: l10 :: l11 :: l12 :: l13 :: l14 :: l15 :: l16 :: l17 :: l18 :: .val (.int x) :: L) S k n H Q := W_ist (rfl : (pj lw).1 100 443 = some (.istore 19, 2, 0)) rfl rfl
theorem w100_445 {x : Int32} {l0 l1 l2 l3 l4 l5 l6 l7 l8 l9 l10 l11 l12 l13 l14 l15 l16 l17 l18 : Slot} : W (pj lw) 100 445 (l0 :: l1 :: l2 :: l3 :: l4 :: l5 :: l6 :: l7 :: l8 :: l9 :: l10 :: l11 :: l12 :: l13 :: l14 :: l15 :: l16 :: l17 :: l18 :: .val (.int x) :: L) S k n H Q ↔ W (pj lw) 100 447 (l0 :: l1 :: l2 :: l3 :: l4 :: l5 :: l6 :: l7 :: l8 :: l9 :: l10 :: l11 :: l12 :: l13 :: l14 :: l15 :: l16 :: l17 :: l18 :: .val (.int x) :: L) (.int x :: S) k n H Q := W_s (rfl : (pj lw).1 100 445 = some (.iload 19, 2, 0)) rfl rfl rfl
theorem w100_447 : W (pj lw) 100 447 L S k n H Q ↔ W (pj lw) 100 448 L (.int 2 :: S) k n H Q := W_s (rfl : (pj lw).1 100 447 = some (.iconst 2, 1, 0)) rfl rfl rfl
theorem w100_448 {x y : Int32} : W (pj lw) 100 448 L (.int y :: .int x :: S) k n H Q ↔ (if x = y then W (pj lw) 100 459 L S k n H Q else W (pj lw) 100 451 L S k n H Q) := W_icmp_eq (rfl : (pj lw).1 100 448 = some (.if_icmp .eq 11, 3, 0)) rfl
theorem w100_451 {x : Int32} {l0 l1 l2 l3 l4 l5 l6 l7 l8 l9 l10 l11 l12 l13 l14 l15 l16 l17 l18 : Slot} : W (pj lw) 100 451 (l0 :: l1 :: l2 :: l3 :: l4 :: l5 :: l6 :: l7 :: l8 :: l9 :: l10 :: l11 :: l12 :: l13 :: l14 :: l15 :: l16 :: l17 :: l18 :: .val (.int x) :: L) S k n H Q ↔ W (pj lw) 100 453 (l0 :: l1 :: l2 :: l3 :: l4 :: l5 :: l6 :: l7 :: l8 :: l9 :: l10 :: l11 :: l12 :: l13 :: l14 :: l15 :: l16 :: l17 :: l18 :: .val (.int x) :: L) (.int x :: S) k n H Q := W_s (rfl : (pj lw).1 100 451 = some (.iload 19, 2, 0)) rfl rfl rfl
theorem w100_453 : W (pj lw) 100 453 L S k n H Q ↔ W (pj lw) 100 454 L (.int 3 :: S) k n H Q := W_s (rfl : (pj lw).1 100 453 = some (.iconst 3, 1, 0)) rfl rfl rfl
theorem w100_454 {x y : Int32} : W (pj lw) 100 454 L (.int y :: .int x :: S) k n H Q ↔ (if x = y then W (pj lw) 100 459 L S k n H Q else W (pj lw) 100 457 L S k n H Q) := W_icmp_eq (rfl : (pj lw).1 100 454 = some (.if_icmp .eq 5, 3, 0)) rfl
theorem w100_459 : W (pj lw) 100 459 L S k n H Q ↔ W (pj lw) 100 460 L (.int 0 :: S) k n H Q := W_s (rfl : (pj lw).1 100 459 = some (.iconst 0, 1, 0)) rfl rfl rfl
theorem w100_460i {y : Int32} {x : Int32} {l0 l1 l2 l3 l4 l5 l6 l7 l8 l9 l10 l11 l12 l13 l14 l15 l16 l17 l18 : Slot} : W (pj lw) 100 460 (l0 :: l1 :: l2 :: l3 :: l4 :: l5 :: l6 :: l7 :: l8 :: l9 :: l10 :: l11 :: l12 :: l13 :: l14 :: l15 :: l16 :: l17 :: l18 :: .val (.int y) :: L) (.int x :: S) k n H Q ↔ W (pj lw) 100 462 (l0 :: l1 :: l2 :: l3 :: l4 :: l5 :: l6 :: l7 :: l8 :: l9 :: l10 :: l11 :: l12 :: l13 :: l14 :: l15 :: l16 :: l17 :: l18 :: .val (.int x) :: L) S k n H Q := W_ist (rfl : (pj lw).1 100 460 = some (.istore 19, 2, 0)) rfl rfl
theorem w100_460 {x : Int32} {l0 l1 l2 l3 l4 l5 l6 l7 l8 l9 l10 l11 l12 l13 l14 l15 l16 l17 l18 : Slot} : W (pj lw) 100 460 (l0 :: l1 :: l2 :: l3 :: l4 :: l5 :: l6 :: l7 :: l8 :: l9 :: l10 :: l11 :: l12 :: l13 :: l14 :: l15 :: l16 :: l17 :: l18 :: .unset :: L) (.int x :: S) k n H Q ↔ W (pj lw) 100 462 (l0 :: l1 :: l2 :: l3 :: l4 :: l5 :: l6 :: l7 :: l8 :: l9 :: l10 :: l11 :: l12 :: l13 :: l14 :: l15 :: l16 :: l17 :: l18 :: .val (.int x) :: L) S k n H Q := W_ist (rfl : (pj lw).1 100 460 = some (.istore 19, 2, 0)) rfl rfl
theorem w100_462 : W (pj lw) 100 462 L S k n H Q ↔ W (pj lw) 100 463 L (.int 0 :: S) k n H Q := W_s (rfl : (pj lw).1 100 462 = some (.iconst 0, 1, 0)) rfl rfl rfl
theorem w100_463 {x : Int32} {l0 l1 l2 l3 l4 l5 l6 l7 l8 l9 l10 l11 l12 l13 l14 l15 l16 l17 l18 l19 : Slot} : W (pj lw) 100 463 (l0 :: l1 :: l2 :: l3 :: l4 :: l5 :: l6 :: l7 :: l8 :: l9 :: l10 :: l11 :: l12 :: l13 :: l14 :: l15 :: l16 :: l17 :: l18 :: l19 :: .unset :: L) (.int x :: S) k n H Q ↔ W (pj lw) 100 465 (l0 :: l1 :: l2 :: l3 :: l4 :: l5 :: l6 :: l7 :: l8 :: l9 :: l10 :: l11 :: l12 :: l13 :: l14 :: l15 :: l16 :: l17 :: l18 :: l19 :: .val (.int x) :: L) S k n H Q := W_ist (rfl : (pj lw).1 100 463 = some (.istore 20, 2, 0)) rfl rfl
theorem w100_465 {x : Int32} {l0 l1 l2 l3 l4 l5 l6 l7 l8 l9 l10 l11 l12 l13 l14 l15 l16 l17 l18 l19 : Slot} : W (pj lw) 100 465 (l0 :: l1 :: l2 :: l3 :: l4 :: l5 :: l6 :: l7 :: l8 :: l9 :: l10 :: l11 :: l12 :: l13 :: l14 :: l15 :: l16 :: l17 :: l18 :: l19 :: .val (.int x) :: L) S k n H Q ↔ W (pj lw) 100 467 (l0 :: l1 :: l2 :: l3 :: l4 :: l5 :: l6 :: l7 :: l8 :: l9 :: l10 :: l11 :: l12 :: l13 :: l14 :: l15 :: l16 :: l17 :: l18 :: l19 :: .val (.int x) :: L) (.int x :: S) k n H Q := W_s (rfl : (pj lw).1 100 465 = some (.iload 20, 2, 0)) rfl rfl rfl
theorem w100_467 {x : Int32} {l0 : Slot} : W (pj lw) 100 467 (l0 :: .val (.int x) :: L) S k n H Q ↔ W (pj lw) 100 468 (l0 :: .val (.int x) :: L) (.int x :: S) k n H Q := W_s (rfl : (pj lw).1 100 467 = some (.iload_n 1, 1, 0)) rfl rfl rfl
theorem w100_468 {x y : Int32} : W (pj lw) 100 468 L (.int y :: .int x :: S) k n H Q ↔ (if x < y then W (pj lw) 100 471 L S k n H Q else W (pj lw) 100 491 L S k n H Q) := W_icmp_ge (rfl : (pj lw).1 100 468 = some (.if_icmp .ge 23, 3, 0)) rfl
theorem w100_471 {x : Nat} {l0 l1 : Slot} : W (pj lw) 100 471 (l0 :: l1 :: .val (.ref x) :: L) S k n H Q ↔ W (pj lw) 100 472 (l0 :: l1 :: .val (.ref x) :: L) (.ref x :: S) k n H Q := W_s (rfl : (pj lw).1 100 471 = some (.aload_n 2, 1, 0)) rfl rfl rfl
theorem w100_472 {x : Int32} {l0 l1 l2 l3 l4 l5 l6 l7 l8 l9 l10 l11 l12 l13 l14 l15 l16 l17 l18 l19 : Slot} : W (pj lw) 100 472 (l0 :: l1 :: l2 :: l3 :: l4 :: l5 :: l6 :: l7 :: l8 :: l9 :: l10 :: l11 :: l12 :: l13 :: l14 :: l15 :: l16 :: l17 :: l18 :: l19 :: .val (.int x) :: L) S k n H Q ↔ W (pj lw) 100 474 (l0 :: l1 :: l2 :: l3 :: l4 :: l5 :: l6 :: l7 :: l8 :: l9 :: l10 :: l11 :: l12 :: l13 :: l14 :: l15 :: l16 :: l17 :: l18 :: l19 :: .val (.int x) :: L) (.int x :: S) k n H Q := W_s (rfl : (pj lw).1 100 472 = some (.iload 20, 2, 0)) rfl rfl rfl
theorem w100_474 {a : Nat} {x0 : Int32} : W (pj lw) 100 474 L (.int x0 :: .ref a :: S) k n H Q ↔ ((isO H a = true ∧ cs S + (2 + 11) + 13 ≤ 192) ∧ Cl (pj lw) 12 [.ref a, .int x0] H (fun v H => W (pj lw) 100 477 L (v.toList ++ S) k n H Q)) := W_inst (as := [.int x0]) (rfl : (pj lw).1 100 474 = some (.invokevirtual 39, 3, 12)) rfl rfl rfl (Nat.le_of_ble_eq_true rfl) (Nat.le_of_ble_eq_true rfl) ⟨rfl, rfl⟩
theorem w100_477 {x : Int32} {l0 l1 l2 l3 l4 l5 l6 l7 l8 l9 l10 l11 l12 : Slot} : W (pj lw) 100 477 (l0 :: l1 :: l2 :: l3 :: l4 :: l5 :: l6 :: l7 :: l8 :: l9 :: l10 :: l11 :: l12 :: .val (.int x) :: L) S k n H Q ↔ W (pj lw) 100 479 (l0 :: l1 :: l2 :: l3 :: l4 :: l5 :: l6 :: l7 :: l8 :: l9 :: l10 :: l11 :: l12 :: .val (.int x) :: L) (.int x :: S) k n H Q := W_s (rfl : (pj lw).1 100 477 = some (.iload 13, 2, 0)) rfl rfl rfl
theorem w100_479 {x y : Int32} : W (pj lw) 100 479 L (.int y :: .int x :: S) k n H Q ↔ (if x = y then W (pj lw) 100 482 L S k n H Q else W (pj lw) 100 485 L S k n H Q) := W_icmp_ne (rfl : (pj lw).1 100 479 = some (.if_icmp .ne 6, 3, 0)) rfl
theorem w100_482 {x : Int32} {l0 l1 l2 l3 l4 l5 l6 l7 l8 l9 l10 l11 l12 l13 l14 l15 l16 l17 l18 : Slot} : W (pj lw) 100 482 (l0 :: l1 :: l2 :: l3 :: l4 :: l5 :: l6 :: l7 :: l8 :: l9 :: l10 :: l11 :: l12 :: l13 :: l14 :: l15 :: l16 :: l17 :: l18 :: .val (.int x) :: L) S k n H Q ↔ W (pj lw) 100 485 (l0 :: l1 :: l2 :: l3 :: l4 :: l5 :: l6 :: l7 :: l8 :: l9 :: l10 :: l11 :: l12 :: l13 :: l14 :: l15 :: l16 :: l17 :: l18 :: .val (.int (x + 1)) :: L) S k n H Q := W_s (rfl : (pj lw).1 100 482 = some (.iinc 19 1, 3, 0)) rfl rfl rfl
theorem w100_485 {x : Int32} {l0 l1 l2 l3 l4 l5 l6 l7 l8 l9 l10 l11 l12 l13 l14 l15 l16 l17 l18 l19 : Slot} : W (pj lw) 100 485 (l0 :: l1 :: l2 :: l3 :: l4 :: l5 :: l6 :: l7 :: l8 :: l9 :: l10 :: l11 :: l12 :: l13 :: l14 :: l15 :: l16 :: l17 :: l18 :: l19 :: .val (.int x) :: L) S k n H Q ↔ W (pj lw) 100 488 (l0 :: l1 :: l2 :: l3 :: l4 :: l5 :: l6 :: l7 :: l8 :: l9 :: l10 :: l11 :: l12 :: l13 :: l14 :: l15 :: l16 :: l17 :: l18 :: l19 :: .val (.int (x + 1)) :: L) S k n H Q := W_s (rfl : (pj lw).1 100 485 = some (.iinc 20 1, 3, 0)) rfl rfl rfl
theorem w100_488 : W (pj lw) 100 488 L S k n H Q ↔ W (pj lw) 100 465 L S k n H Q := W_goto (rfl : (pj lw).1 100 488 = some (.goto (-23), 3, 0)) rfl
theorem w100_491 {x : Nat} {l0 l1 : Slot} : W (pj lw) 100 491 (l0 :: l1 :: .val (.ref x) :: L) S k n H Q ↔ W (pj lw) 100 492 (l0 :: l1 :: .val (.ref x) :: L) (.ref x :: S) k n H Q := W_s (rfl : (pj lw).1 100 491 = some (.aload_n 2, 1, 0)) rfl rfl rfl
theorem w100_492 {x : Int32} {l0 l1 l2 l3 l4 l5 l6 l7 l8 l9 l10 l11 l12 : Slot} : W (pj lw) 100 492 (l0 :: l1 :: l2 :: l3 :: l4 :: l5 :: l6 :: l7 :: l8 :: l9 :: l10 :: l11 :: l12 :: .val (.int x) :: L) S k n H Q ↔ W (pj lw) 100 494 (l0 :: l1 :: l2 :: l3 :: l4 :: l5 :: l6 :: l7 :: l8 :: l9 :: l10 :: l11 :: l12 :: .val (.int x) :: L) (.int x :: S) k n H Q := W_s (rfl : (pj lw).1 100 492 = some (.iload 13, 2, 0)) rfl rfl rfl
theorem w100_494 {a : Nat} {x0 : Int32} : W (pj lw) 100 494 L (.int x0 :: .ref a :: S) k n H Q ↔ ((isO H a = true ∧ cs S + (4 + 11) + 13 ≤ 192) ∧ Cl (pj lw) 15 [.ref a, .int x0] H (fun v H => W (pj lw) 100 497 L (v.toList ++ S) k n H Q)) := W_inst (as := [.int x0]) (rfl : (pj lw).1 100 494 = some (.invokevirtual 51, 3, 15)) rfl rfl rfl (Nat.le_of_ble_eq_true rfl) (Nat.le_of_ble_eq_true rfl) ⟨rfl, rfl⟩
theorem w100_497 {x : Int32} {l0 l1 l2 l3 l4 l5 l6 l7 l8 l9 l10 l11 l12 l13 l14 l15 l16 l17 l18 : Slot} : W (pj lw) 100 497 (l0 :: l1 :: l2 :: l3 :: l4 :: l5 :: l6 :: l7 :: l8 :: l9 :: l10 :: l11 :: l12 :: l13 :: l14 :: l15 :: l16 :: l17 :: l18 :: .val (.int x) :: L) S k n H Q ↔ W (pj lw) 100 499 (l0 :: l1 :: l2 :: l3 :: l4 :: l5 :: l6 :: l7 :: l8 :: l9 :: l10 :: l11 :: l12 :: l13 :: l14 :: l15 :: l16 :: l17 :: l18 :: .val (.int x) :: L) (.int x :: S) k n H Q := W_s (rfl : (pj lw).1 100 497 = some (.iload 19, 2, 0)) rfl rfl rfl
theorem w100_499 {x y : Int32} : W (pj lw) 100 499 L (.int y :: .int x :: S) k n H Q ↔ (if x = y then W (pj lw) 100 504 L S k n H Q else W (pj lw) 100 502 L S k n H Q) := W_icmp_eq (rfl : (pj lw).1 100 499 = some (.if_icmp .eq 5, 3, 0)) rfl
theorem w100_504 {x : Int32} {l0 l1 l2 l3 l4 l5 l6 l7 l8 l9 l10 l11 l12 : Slot} : W (pj lw) 100 504 (l0 :: l1 :: l2 :: l3 :: l4 :: l5 :: l6 :: l7 :: l8 :: l9 :: l10 :: l11 :: l12 :: .val (.int x) :: L) S k n H Q ↔ W (pj lw) 100 507 (l0 :: l1 :: l2 :: l3 :: l4 :: l5 :: l6 :: l7 :: l8 :: l9 :: l10 :: l11 :: l12 :: .val (.int (x + 1)) :: L) S k n H Q := W_s (rfl : (pj lw).1 100 504 = some (.iinc 13 1, 3, 0)) rfl rfl rfl
theorem w100_507 : W (pj lw) 100 507 L S k n H Q ↔ W (pj lw) 100 183 L S k n H Q := W_goto (rfl : (pj lw).1 100 507 = some (.goto (-324), 3, 0)) rfl
theorem w100_510 {x : Int64} {l0 l1 l2 l3 l4 l5 l6 l7 l8 l9 l10 : Slot} : W (pj lw) 100 510 (l0 :: l1 :: l2 :: l3 :: l4 :: l5 :: l6 :: l7 :: l8 :: l9 :: l10 :: .val (.long x) :: L) S k n H Q ↔ W (pj lw) 100 512 (l0 :: l1 :: l2 :: l3 :: l4 :: l5 :: l6 :: l7 :: l8 :: l9 :: l10 :: .val (.long x) :: L) (.long x :: S) k n H Q := W_s (rfl : (pj lw).1 100 510 = some (.lload 11, 2, 0)) rfl rfl rfl
theorem w100_512j {x y : Int64} {l0 l1 l2 l3 l4 l5 : Slot} : W (pj lw) 100 512 (l0 :: l1 :: l2 :: l3 :: l4 :: l5 :: .val (.long y) :: .second :: L) (.long x :: S) k n H Q ↔ W (pj lw) 100 514 (l0 :: l1 :: l2 :: l3 :: l4 :: l5 :: .val (.long x) :: .second :: L) S k n H Q := W_lst' (rfl : (pj lw).1 100 512 = some (.lstore 6, 2, 0)) rfl rfl
theorem w100_514 {x : Int32} {l0 l1 l2 l3 l4 l5 l6 l7 l8 : Slot} : W (pj lw) 100 514 (l0 :: l1 :: l2 :: l3 :: l4 :: l5 :: l6 :: l7 :: l8 :: .val (.int x) :: L) S k n H Q ↔ W (pj lw) 100 516 (l0 :: l1 :: l2 :: l3 :: l4 :: l5 :: l6 :: l7 :: l8 :: .val (.int x) :: L) (.int x :: S) k n H Q := W_s (rfl : (pj lw).1 100 514 = some (.iload 9, 2, 0)) rfl rfl rfl
theorem w100_516 {x : Nat} : W (pj lw) 100 516 (.val (.ref x) :: L) S k n H Q ↔ W (pj lw) 100 517 (.val (.ref x) :: L) (.ref x :: S) k n H Q := W_s (rfl : (pj lw).1 100 516 = some (.aload_n 0, 1, 0)) rfl rfl rfl
theorem w100_517 {a : Nat} : W (pj lw) 100 517 L (.ref a :: S) k n H Q ↔ (isA H a = true ∧ W (pj lw) 100 518 L (.int (alen H a).toInt32 :: S) k n H Q) := W_alen (rfl : (pj lw).1 100 517 = some (.arraylength, 1, 0))
theorem w100_518 {x y : Int32} : W (pj lw) 100 518 L (.int y :: .int x :: S) k n H Q ↔ (if x < y then W (pj lw) 100 521 L S k n H Q else W (pj lw) 100 857 L S k n H Q) := W_icmp_ge (rfl : (pj lw).1 100 518 = some (.if_icmp .ge 339, 3, 0)) rfl
theorem w100_521 {x : Int32} {l0 l1 l2 l3 l4 l5 l6 l7 l8 : Slot} : W (pj lw) 100 521 (l0 :: l1 :: l2 :: l3 :: l4 :: l5 :: l6 :: l7 :: l8 :: .val (.int x) :: L) S k n H Q ↔ W (pj lw) 100 523 (l0 :: l1 :: l2 :: l3 :: l4 :: l5 :: l6 :: l7 :: l8 :: .val (.int x) :: L) (.int x :: S) k n H Q := W_s (rfl : (pj lw).1 100 521 = some (.iload 9, 2, 0)) rfl rfl rfl
theorem w100_523 : W (pj lw) 100 523 L S k n H Q ↔ W (pj lw) 100 526 L (.int 246 :: S) k n H Q := W_s (rfl : (pj lw).1 100 523 = some (.sipush 246, 3, 0)) rfl rfl rfl
theorem w100_526 {x y : Int32} : W (pj lw) 100 526 L (.int y :: .int x :: S) k n H Q ↔ (if x < y then W (pj lw) 100 532 L S k n H Q else W (pj lw) 100 529 L S k n H Q) := W_icmp_lt (rfl : (pj lw).1 100 526 = some (.if_icmp .lt 6, 3, 0)) rfl
theorem w100_529 : W (pj lw) 100 529 L S k n H Q ↔ W (pj lw) 100 857 L S k n H Q := W_goto (rfl : (pj lw).1 100 529 = some (.goto 328, 3, 0)) rfl
theorem w100_532 {x : Nat} : W (pj lw) 100 532 (.val (.ref x) :: L) S k n H Q ↔ W (pj lw) 100 533 (.val (.ref x) :: L) (.ref x :: S) k n H Q := W_s (rfl : (pj lw).1 100 532 = some (.aload_n 0, 1, 0)) rfl rfl rfl
theorem w100_533 {x : Int32} {l0 l1 l2 l3 l4 l5 l6 l7 l8 : Slot} : W (pj lw) 100 533 (l0 :: l1 :: l2 :: l3 :: l4 :: l5 :: l6 :: l7 :: l8 :: .val (.int x) :: L) S k n H Q ↔ W (pj lw) 100 535 (l0 :: l1 :: l2 :: l3 :: l4 :: l5 :: l6 :: l7 :: l8 :: .val (.int x) :: L) (.int x :: S) k n H Q := W_s (rfl : (pj lw).1 100 533 = some (.iload 9, 2, 0)) rfl rfl rfl
theorem w100_535 {x0 : Nat} {x1 : Int32} : W (pj lw) 100 535 L (.int x1 :: .ref x0 :: S) k n H Q ↔ (cs S + (2 + 11) + 0 ≤ 192 ∧ Cl (pj lw) 102 [.ref x0, .int x1] H (fun v H => W (pj lw) 100 538 L (v.toList ++ S) k n H Q)) := W_stat (a := [.ref x0, .int x1]) (rfl : (pj lw).1 100 535 = some (.invokestatic 8, 3, 102)) rfl rfl rfl (Nat.le_of_ble_eq_true rfl) (Nat.le_of_ble_eq_true rfl) ⟨rfl, rfl⟩
theorem w100_538 : W (pj lw) 100 538 L S k n H Q ↔ W (pj lw) 100 540 L (.int 8 :: S) k n H Q := W_s (rfl : (pj lw).1 100 538 = some (.bipush 8, 2, 0)) rfl rfl rfl
theorem w100_540 {x0 : Int32} {x1 : Int32} : W (pj lw) 100 540 L (.int x1 :: .int x0 :: S) k n H Q ↔ (cs S + (2 + 11) + 0 ≤ 192 ∧ Cl (pj lw) 103 [.int x0, .int x1] H (fun v H => W (pj lw) 100 543 L (v.toList ++ S) k n H Q)) := W_stat (a := [.int x0, .int x1]) (rfl : (pj lw).1 100 540 = some (.invokestatic 14, 3, 103)) rfl rfl rfl (Nat.le_of_ble_eq_true rfl) (Nat.le_of_ble_eq_true rfl) ⟨rfl, rfl⟩
theorem w100_543i {y : Int32} {x : Int32} {l0 l1 l2 l3 l4 l5 l6 l7 l8 l9 l10 l11 l12 : Slot} : W (pj lw) 100 543 (l0 :: l1 :: l2 :: l3 :: l4 :: l5 :: l6 :: l7 :: l8 :: l9 :: l10 :: l11 :: l12 :: .val (.int y) :: L) (.int x :: S) k n H Q ↔ W (pj lw) 100 545 (l0 :: l1 :: l2 :: l3 :: l4 :: l5 :: l6 :: l7 :: l8 :: l9 :: l10 :: l11 :: l12 :: .val (.int x) :: L) S k n H Q := W_ist (rfl : (pj lw).1 100 543 = some (.istore 13, 2, 0)) rfl rfl
theorem w100_545 {x : Nat} : W (pj lw) 100 545 (.val (.ref x) :: L) S k n H Q ↔ W (pj lw) 100 546 (.val (.ref x) :: L) (.ref x :: S) k n H Q := W_s (rfl : (pj lw).1 100 545 = some (.aload_n 0, 1, 0)) rfl rfl rfl
theorem w100_546 {x : Int32} {l0 l1 l2 l3 l4 l5 l6 l7 l8 : Slot} : W (pj lw) 100 546 (l0 :: l1 :: l2 :: l3 :: l4 :: l5 :: l6 :: l7 :: l8 :: .val (.int x) :: L) S k n H Q ↔ W (pj lw) 100 548 (l0 :: l1 :: l2 :: l3 :: l4 :: l5 :: l6 :: l7 :: l8 :: .val (.int x) :: L) (.int x :: S) k n H Q := W_s (rfl : (pj lw).1 100 546 = some (.iload 9, 2, 0)) rfl rfl rfl
theorem w100_548 : W (pj lw) 100 548 L S k n H Q ↔ W (pj lw) 100 549 L (.int 1 :: S) k n H Q := W_s (rfl : (pj lw).1 100 548 = some (.iconst 1, 1, 0)) rfl rfl rfl
theorem w100_549 {x y : Int32} : W (pj lw) 100 549 L (.int y :: .int x :: S) k n H Q ↔ W (pj lw) 100 550 L (.int (x + y) :: S) k n H Q := W_s (rfl : (pj lw).1 100 549 = some (.iadd, 1, 0)) rfl rfl rfl
theorem w100_550 {x0 : Nat} {x1 : Int32} : W (pj lw) 100 550 L (.int x1 :: .ref x0 :: S) k n H Q ↔ (cs S + (2 + 11) + 0 ≤ 192 ∧ Cl (pj lw) 102 [.ref x0, .int x1] H (fun v H => W (pj lw) 100 553 L (v.toList ++ S) k n H Q)) := W_stat (a := [.ref x0, .int x1]) (rfl : (pj lw).1 100 550 = some (.invokestatic 8, 3, 102)) rfl rfl rfl (Nat.le_of_ble_eq_true rfl) (Nat.le_of_ble_eq_true rfl) ⟨rfl, rfl⟩
theorem w100_553 {x : Int32} {l0 : Slot} : W (pj lw) 100 553 (l0 :: .val (.int x) :: L) S k n H Q ↔ W (pj lw) 100 554 (l0 :: .val (.int x) :: L) (.int x :: S) k n H Q := W_s (rfl : (pj lw).1 100 553 = some (.iload_n 1, 1, 0)) rfl rfl rfl
theorem w100_554 {x0 : Int32} {x1 : Int32} : W (pj lw) 100 554 L (.int x1 :: .int x0 :: S) k n H Q ↔ (cs S + (2 + 11) + 0 ≤ 192 ∧ Cl (pj lw) 103 [.int x0, .int x1] H (fun v H => W (pj lw) 100 557 L (v.toList ++ S) k n H Q)) := W_stat (a := [.int x0, .int x1]) (rfl : (pj lw).1 100 554 = some (.invokestatic 14, 3, 103)) rfl rfl rfl (Nat.le_of_ble_eq_true rfl) (Nat.le_of_ble_eq_true rfl) ⟨rfl, rfl⟩
theorem w100_557 {x : Int32} {l0 l1 l2 l3 l4 l5 l6 l7 l8 l9 l10 l11 l12 l13 : Slot} : W (pj lw) 100 557 (l0 :: l1 :: l2 :: l3 :: l4 :: l5 :: l6 :: l7 :: l8 :: l9 :: l10 :: l11 :: l12 :: l13 :: .unset :: L) (.int x :: S) k n H Q ↔ W (pj lw) 100 559 (l0 :: l1 :: l2 :: l3 :: l4 :: l5 :: l6 :: l7 :: l8 :: l9 :: l10 :: l11 :: l12 :: l13 :: .val (.int x) :: L) S k n H Q := W_ist (rfl : (pj lw).1 100 557 = some (.istore 14, 2, 0)) rfl rfl
theorem w100_559 {x : Nat} : W (pj lw) 100 559 (.val (.ref x) :: L) S k n H Q ↔ W (pj lw) 100 560 (.val (.ref x) :: L) (.ref x :: S) k n H Q := W_s (rfl : (pj lw).1 100 559 = some (.aload_n 0, 1, 0)) rfl rfl rfl
theorem w100_560 {x : Int32} {l0 l1 l2 l3 l4 l5 l6 l7 l8 : Slot} : W (pj lw) 100 560 (l0 :: l1 :: l2 :: l3 :: l4 :: l5 :: l6 :: l7 :: l8 :: .val (.int x) :: L) S k n H Q ↔ W (pj lw) 100 562 (l0 :: l1 :: l2 :: l3 :: l4 :: l5 :: l6 :: l7 :: l8 :: .val (.int x) :: L) (.int x :: S) k n H Q := W_s (rfl : (pj lw).1 100 560 = some (.iload 9, 2, 0)) rfl rfl rfl
theorem w100_562 : W (pj lw) 100 562 L S k n H Q ↔ W (pj lw) 100 563 L (.int 2 :: S) k n H Q := W_s (rfl : (pj lw).1 100 562 = some (.iconst 2, 1, 0)) rfl rfl rfl
theorem w100_563 {x y : Int32} : W (pj lw) 100 563 L (.int y :: .int x :: S) k n H Q ↔ W (pj lw) 100 564 L (.int (x + y) :: S) k n H Q := W_s (rfl : (pj lw).1 100 563 = some (.iadd, 1, 0)) rfl rfl rfl
theorem w100_564 {x0 : Nat} {x1 : Int32} : W (pj lw) 100 564 L (.int x1 :: .ref x0 :: S) k n H Q ↔ (cs S + (2 + 11) + 0 ≤ 192 ∧ Cl (pj lw) 102 [.ref x0, .int x1] H (fun v H => W (pj lw) 100 567 L (v.toList ++ S) k n H Q)) := W_stat (a := [.ref x0, .int x1]) (rfl : (pj lw).1 100 564 = some (.invokestatic 8, 3, 102)) rfl rfl rfl (Nat.le_of_ble_eq_true rfl) (Nat.le_of_ble_eq_true rfl) ⟨rfl, rfl⟩
theorem w100_567 {x : Int32} {l0 : Slot} : W (pj lw) 100 567 (l0 :: .val (.int x) :: L) S k n H Q ↔ W (pj lw) 100 568 (l0 :: .val (.int x) :: L) (.int x :: S) k n H Q := W_s (rfl : (pj lw).1 100 567 = some (.iload_n 1, 1, 0)) rfl rfl rfl
theorem w100_568 {x0 : Int32} {x1 : Int32} : W (pj lw) 100 568 L (.int x1 :: .int x0 :: S) k n H Q ↔ (cs S + (2 + 11) + 0 ≤ 192 ∧ Cl (pj lw) 103 [.int x0, .int x1] H (fun v H => W (pj lw) 100 571 L (v.toList ++ S) k n H Q)) := W_stat (a := [.int x0, .int x1]) (rfl : (pj lw).1 100 568 = some (.invokestatic 14, 3, 103)) rfl rfl rfl (Nat.le_of_ble_eq_true rfl) (Nat.le_of_ble_eq_true rfl) ⟨rfl, rfl⟩
theorem w100_571 {x : Int32} {l0 l1 l2 l3 l4 l5 l6 l7 l8 l9 l10 l11 l12 l13 l14 : Slot} : W (pj lw) 100 571 (l0 :: l1 :: l2 :: l3 :: l4 :: l5 :: l6 :: l7 :: l8 :: l9 :: l10 :: l11 :: l12 :: l13 :: l14 :: .unset :: L) (.int x :: S) k n H Q ↔ W (pj lw) 100 573 (l0 :: l1 :: l2 :: l3 :: l4 :: l5 :: l6 :: l7 :: l8 :: l9 :: l10 :: l11 :: l12 :: l13 :: l14 :: .val (.int x) :: L) S k n H Q := W_ist (rfl : (pj lw).1 100 571 = some (.istore 15, 2, 0)) rfl rfl
theorem w100_573 {x : Int32} {l0 l1 l2 l3 l4 l5 l6 l7 l8 l9 l10 l11 l12 : Slot} : W (pj lw) 100 573 (l0 :: l1 :: l2 :: l3 :: l4 :: l5 :: l6 :: l7 :: l8 :: l9 :: l10 :: l11 :: l12 :: .val (.int x) :: L) S k n H Q ↔ W (pj lw) 100 575 (l0 :: l1 :: l2 :: l3 :: l4 :: l5 :: l6 :: l7 :: l8 :: l9 :: l10 :: l11 :: l12 :: .val (.int x) :: L) (.int x :: S) k n H Q := W_s (rfl : (pj lw).1 100 573 = some (.iload 13, 2, 0)) rfl rfl rfl
theorem w100_575 : W (pj lw) 100 575 L S k n H Q ↔ W (pj lw) 100 576 L (.int 2 :: S) k n H Q := W_s (rfl : (pj lw).1 100 575 = some (.iconst 2, 1, 0)) rfl rfl rfl
theorem w100_576 {x y : Int32} : W (pj lw) 100 576 L (.int y :: .int x :: S) k n H Q ↔ (if x < y then W (pj lw) 100 579 L S k n H Q else W (pj lw) 100 681 L S k n H Q) := W_icmp_ge (rfl : (pj lw).1 100 576 = some (.if_icmp .ge 105, 3, 0)) rfl
theorem w100_579 : W (pj lw) 100 579 L S k n H Q ↔ W (pj lw) 100 582 L (.int 200 :: S) k n H Q := W_s (rfl : (pj lw).1 100 579 = some (.sipush 200, 3, 0)) rfl rfl rfl
theorem w100_582 {x : Nat} : W (pj lw) 100 582 (.val (.ref x) :: L) S k n H Q ↔ W (pj lw) 100 583 (.val (.ref x) :: L) (.ref x :: S) k n H Q := W_s (rfl : (pj lw).1 100 582 = some (.aload_n 0, 1, 0)) rfl rfl rfl
theorem w100_583 {x : Int32} {l0 l1 l2 l3 l4 l5 l6 l7 l8 : Slot} : W (pj lw) 100 583 (l0 :: l1 :: l2 :: l3 :: l4 :: l5 :: l6 :: l7 :: l8 :: .val (.int x) :: L) S k n H Q ↔ W (pj lw) 100 585 (l0 :: l1 :: l2 :: l3 :: l4 :: l5 :: l6 :: l7 :: l8 :: .val (.int x) :: L) (.int x :: S) k n H Q := W_s (rfl : (pj lw).1 100 583 = some (.iload 9, 2, 0)) rfl rfl rfl
theorem w100_585 {x0 : Nat} {x1 : Int32} : W (pj lw) 100 585 L (.int x1 :: .ref x0 :: S) k n H Q ↔ (cs S + (2 + 11) + 0 ≤ 192 ∧ Cl (pj lw) 102 [.ref x0, .int x1] H (fun v H => W (pj lw) 100 588 L (v.toList ++ S) k n H Q)) := W_stat (a := [.ref x0, .int x1]) (rfl : (pj lw).1 100 585 = some (.invokestatic 8, 3, 102)) rfl rfl rfl (Nat.le_of_ble_eq_true rfl) (Nat.le_of_ble_eq_true rfl) ⟨rfl, rfl⟩
theorem w100_588 : W (pj lw) 100 588 L S k n H Q ↔ W (pj lw) 100 589 L (.int 3 :: S) k n H Q := W_s (rfl : (pj lw).1 100 588 = some (.iconst 3, 1, 0)) rfl rfl rfl
theorem w100_589 {x y : Int32} : W (pj lw) 100 589 L (.int y :: .int x :: S) k n H Q ↔ W (pj lw) 100 590 L (.int (Jvm.Free.XT.ushr x y) :: S) k n H Q := W_s (rfl : (pj lw).1 100 589 = some (.iushr, 1, 0)) rfl rfl rfl
theorem w100_590 : W (pj lw) 100 590 L S k n H Q ↔ W (pj lw) 100 593 L (.int 801 :: S) k n H Q := W_s (rfl : (pj lw).1 100 590 = some (.sipush 801, 3, 0)) rfl rfl rfl
theorem w100_593 {x0 : Int32} {x1 : Int32} : W (pj lw) 100 593 L (.int x1 :: .int x0 :: S) k n H Q ↔ (cs S + (2 + 11) + 0 ≤ 192 ∧ Cl (pj lw) 103 [.int x0, .int x1] H (fun v H => W (pj lw) 100 596 L (v.toList ++ S) k n H Q)) := W_stat (a := [.int x0, .int x1]) (rfl : (pj lw).1 100 593 = some (.invokestatic 14, 3, 103)) rfl rfl rfl (Nat.le_of_ble_eq_true rfl) (Nat.le_of_ble_eq_true rfl) ⟨rfl, rfl⟩
theorem w100_596 {x y : Int32} : W (pj lw) 100 596 L (.int y :: .int x :: S) k n H Q ↔ W (pj lw) 100 597 L (.int (x + y) :: S) k n H Q := W_s (rfl : (pj lw).1 100 596 = some (.iadd, 1, 0)) rfl rfl rfl
theorem w100_597 {x : Int32} {l0 l1 l2 l3 l4 l5 l6 l7 l8 l9 l10 l11 l12 l13 l14 l15 : Slot} : W (pj lw) 100 597 (l0 :: l1 :: l2 :: l3 :: l4 :: l5 :: l6 :: l7 :: l8 :: l9 :: l10 :: l11 :: l12 :: l13 :: l14 :: l15 :: .unset :: L) (.int x :: S) k n H Q ↔ W (pj lw) 100 599 (l0 :: l1 :: l2 :: l3 :: l4 :: l5 :: l6 :: l7 :: l8 :: l9 :: l10 :: l11 :: l12 :: l13 :: l14 :: l15 :: .val (.int x) :: L) S k n H Q := W_ist (rfl : (pj lw).1 100 597 = some (.istore 16, 2, 0)) rfl rfl
theorem w100_599 {x : Nat} {l0 l1 : Slot} : W (pj lw) 100 599 (l0 :: l1 :: .val (.ref x) :: L) S k n H Q ↔ W (pj lw) 100 600 (l0 :: l1 :: .val (.ref x) :: L) (.ref x :: S) k n H Q := W_s (rfl : (pj lw).1 100 599 = some (.aload_n 2, 1, 0)) rfl rfl rfl
theorem w100_600 {x : Int32} {l0 l1 l2 l3 l4 l5 l6 l7 l8 l9 l10 l11 l12 l13 : Slot} : W (pj lw) 100 600 (l0 :: l1 :: l2 :: l3 :: l4 :: l5 :: l6 :: l7 :: l8 :: l9 :: l10 :: l11 :: l12 :: l13 :: .val (.int x) :: L) S k n H Q ↔ W (pj lw) 100 602 (l0 :: l1 :: l2 :: l3 :: l4 :: l5 :: l6 :: l7 :: l8 :: l9 :: l10 :: l11 :: l12 :: l13 :: .val (.int x) :: L) (.int x :: S) k n H Q := W_s (rfl : (pj lw).1 100 600 = some (.iload 14, 2, 0)) rfl rfl rfl
theorem w100_602 {x : Int32} {l0 l1 l2 l3 l4 l5 l6 l7 l8 l9 l10 l11 l12 l13 l14 : Slot} : W (pj lw) 100 602 (l0 :: l1 :: l2 :: l3 :: l4 :: l5 :: l6 :: l7 :: l8 :: l9 :: l10 :: l11 :: l12 :: l13 :: l14 :: .val (.int x) :: L) S k n H Q ↔ W (pj lw) 100 604 (l0 :: l1 :: l2 :: l3 :: l4 :: l5 :: l6 :: l7 :: l8 :: l9 :: l10 :: l11 :: l12 :: l13 :: l14 :: .val (.int x) :: L) (.int x :: S) k n H Q := W_s (rfl : (pj lw).1 100 602 = some (.iload 15, 2, 0)) rfl rfl rfl
theorem w100_604 {x : Int32} {l0 l1 l2 l3 l4 l5 l6 l7 l8 l9 l10 l11 l12 l13 l14 l15 : Slot} : W (pj lw) 100 604 (l0 :: l1 :: l2 :: l3 :: l4 :: l5 :: l6 :: l7 :: l8 :: l9 :: l10 :: l11 :: l12 :: l13 :: l14 :: l15 :: .val (.int x) :: L) S k n H Q ↔ W (pj lw) 100 606 (l0 :: l1 :: l2 :: l3 :: l4 :: l5 :: l6 :: l7 :: l8 :: l9 :: l10 :: l11 :: l12 :: l13 :: l14 :: l15 :: .val (.int x) :: L) (.int x :: S) k n H Q := W_s (rfl : (pj lw).1 100 604 = some (.iload 16, 2, 0)) rfl rfl rfl
theorem w100_606 {a : Nat} {x0 : Int32} {x1 : Int32} {x2 : Int32} : W (pj lw) 100 606 L (.int x2 :: .int x1 :: .int x0 :: .ref a :: S) k n H Q ↔ ((isO H a = true ∧ cs S + (5 + 11) + 17 ≤ 192) ∧ Cl (pj lw) 4 [.ref a, .int x0, .int x1, .int x2] H (fun v H => W (pj lw) 100 609 L (v.toList ++ S) k n H Q)) := W_inst (as := [.int x0, .int x1, .int x2]) (rfl : (pj lw).1 100 606 = some (.invokevirtual 54, 3, 4)) rfl rfl rfl (Nat.le_of_ble_eq_true rfl) (Nat.le_of_ble_eq_true rfl) ⟨rfl, rfl⟩
theorem w100_609 {x : Int32} {l0 l1 l2 l3 l4 l5 l6 l7 l8 l9 l10 l11 l12 l13 l14 l15 l16 : Slot} : W (pj lw) 100 609 (l0 :: l1 :: l2 :: l3 :: l4 :: l5 :: l6 :: l7 :: l8 :: l9 :: l10 :: l11 :: l12 :: l13 :: l14 :: l15 :: l16 :: .unset :: L) (.int x :: S) k n H Q ↔ W (pj lw) 100 611 (l0 :: l1 :: l2 :: l3 :: l4 :: l5 :: l6 :: l7 :: l8 :: l9 :: l10 :: l11 :: l12 :: l13 :: l14 :: l15 :: l16 :: .val (.int x) :: L) S k n H Q := W_ist (rfl : (pj lw).1 100 609 = some (.istore 17, 2, 0)) rfl rfl
theorem w100_611 {x : Int32} {l0 l1 l2 l3 l4 l5 l6 l7 l8 l9 l10 l11 l12 l13 : Slot} : W (pj lw) 100 611 (l0 :: l1 :: l2 :: l3 :: l4 :: l5 :: l6 :: l7 :: l8 :: l9 :: l10 :: l11 :: l12 :: l13 :: .val (.int x) :: L) S k n H Q ↔ W (pj lw) 100 613 (l0 :: l1 :: l2 :: l3 :: l4 :: l5 :: l6 :: l7 :: l8 :: l9 :: l10 :: l11 :: l12 :: l13 :: .val (.int x) :: L) (.int x :: S) k n H Q := W_s (rfl : (pj lw).1 100 611 = some (.iload 14, 2, 0)) rfl rfl rfl
theorem w100_613 {x : Int32} {l0 l1 l2 l3 l4 l5 l6 l7 l8 l9 l10 l11 l12 l13 l14 : Slot} : W (pj lw) 100 613 (l0 :: l1 :: l2 :: l3 :: l4 :: l5 :: l6 :: l7 :: l8 :: l9 :: l10 :: l11 :: l12 :: l13 :: l14 :: .val (.int x) :: L) S k n H Q ↔ W (pj lw) 100 615 (l0 :: l1 :: l2 :: l3 :: l4 :: l5 :: l6 :: l7 :: l8 :: l9 :: l10 :: l11 :: l12 :: l13 :: l14 :: .val (.int x) :: L) (.int x :: S) k n H Q := W_s (rfl : (pj lw).1 100 613 = some (.iload 15, 2, 0)) rfl rfl rfl
theorem w100_615 {x y : Int32} : W (pj lw) 100 615 L (.int y :: .int x :: S) k n H Q ↔ (if x = y then W (pj lw) 100 634 L S k n H Q else W (pj lw) 100 618 L S k n H Q) := W_icmp_eq (rfl : (pj lw).1 100 615 = some (.if_icmp .eq 19, 3, 0)) rfl
theorem w100_618 {x : Int64} {l0 l1 l2 : Slot} : W (pj lw) 100 618 (l0 :: l1 :: l2 :: .val (.long x) :: L) S k n H Q ↔ W (pj lw) 100 619 (l0 :: l1 :: l2 :: .val (.long x) :: L) (.long x :: S) k n H Q := W_s (rfl : (pj lw).1 100 618 = some (.lload_n 3, 1, 0)) rfl rfl rfl
theorem w100_619 {x : Int32} {l0 l1 l2 l3 l4 l5 l6 l7 l8 l9 l10 l11 l12 l13 : Slot} : W (pj lw) 100 619 (l0 :: l1 :: l2 :: l3 :: l4 :: l5 :: l6 :: l7 :: l8 :: l9 :: l10 :: l11 :: l12 :: l13 :: .val (.int x) :: L) S k n H Q ↔ W (pj lw) 100 621 (l0 :: l1 :: l2 :: l3 :: l4 :: l5 :: l6 :: l7 :: l8 :: l9 :: l10 :: l11 :: l12 :: l13 :: .val (.int x) :: L) (.int x :: S) k n H Q := W_s (rfl : (pj lw).1 100 619 = some (.iload 14, 2, 0)) rfl rfl rfl
theorem w100_621 {x : Int32} {l0 l1 l2 l3 l4 l5 l6 l7 l8 l9 l10 l11 l12 l13 l14 : Slot} : W (pj lw) 100 621 (l0 :: l1 :: l2 :: l3 :: l4 :: l5 :: l6 :: l7 :: l8 :: l9 :: l10 :: l11 :: l12 :: l13 :: l14 :: .val (.int x) :: L) S k n H Q ↔ W (pj lw) 100 623 (l0 :: l1 :: l2 :: l3 :: l4 :: l5 :: l6 :: l7 :: l8 :: l9 :: l10 :: l11 :: l12 :: l13 :: l14 :: .val (.int x) :: L) (.int x :: S) k n H Q := W_s (rfl : (pj lw).1 100 621 = some (.iload 15, 2, 0)) rfl rfl rfl
theorem w100_623 {x0 : Int32} {x1 : Int32} : W (pj lw) 100 623 L (.int x1 :: .int x0 :: S) k n H Q ↔ (cs S + (4 + 11) + 0 ≤ 192 ∧ Cl (pj lw) 104 [.int x0, .int x1] H (fun v H => W (pj lw) 100 626 L (v.toList ++ S) k n H Q)) := W_stat (a := [.int x0, .int x1]) (rfl : (pj lw).1 100 623 = some (.invokestatic 48, 3, 104)) rfl rfl rfl (Nat.le_of_ble_eq_true rfl) (Nat.le_of_ble_eq_true rfl) ⟨rfl, rfl⟩
theorem w100_626 {x : Int64} {y : Int32} : W (pj lw) 100 626 L (.int y :: .long x :: S) k n H Q ↔ W (pj lw) 100 627 L (.long (Jvm.Free.XT.ushrL x y) :: S) k n H Q := W_s (rfl : (pj lw).1 100 626 = some (.lushr, 1, 0)) rfl rfl rfl
theorem w100_627 : W (pj lw) 100 627 L S k n H Q ↔ W (pj lw) 100 628 L (.long 1 :: S) k n H Q := W_s (rfl : (pj lw).1 100 627 = some (.lconst 1, 1, 0)) rfl rfl rfl
theorem w100_628 {x y : Int64} : W (pj lw) 100 628 L (.long y :: .long x :: S) k n H Q ↔ W (pj lw) 100 629 L (.long (x &&& y) :: S) k n H Q := W_s (rfl : (pj lw).1 100 628 = some (.land, 1, 0)) rfl rfl rfl
theorem w100_629 : W (pj lw) 100 629 L S k n H Q ↔ W (pj lw) 100 630 L (.long 0 :: S) k n H Q := W_s (rfl : (pj lw).1 100 629 = some (.lconst 0, 1, 0)) rfl rfl rfl
theorem w100_630 {x y : Int64} : W (pj lw) 100 630 L (.long y :: .long x :: S) k n H Q ↔ W (pj lw) 100 631 L (.int (Jvm.Free.XT.cmpL x y) :: S) k n H Q := W_s (rfl : (pj lw).1 100 630 = some (.lcmp, 1, 0)) rfl rfl rfl
theorem w100_631 {x : Int32} : W (pj lw) 100 631 L (.int x :: S) k n H Q ↔ (if x = 0 then W (pj lw) 100 638 L S k n H Q else W (pj lw) 100 634 L S k n H Q) := W_if_eq (rfl : (pj lw).1 100 631 = some (.ifCond .eq 7, 3, 0)) rfl
theorem w100_634 : W (pj lw) 100 634 L S k n H Q ↔ W (pj lw) 100 635 L (.int 1 :: S) k n H Q := W_s (rfl : (pj lw).1 100 634 = some (.iconst 1, 1, 0)) rfl rfl rfl
theorem w100_635 : W (pj lw) 100 635 L S k n H Q ↔ W (pj lw) 100 639 L S k n H Q := W_goto (rfl : (pj lw).1 100 635 = some (.goto 4, 3, 0)) rfl
theorem w100_638 : W (pj lw) 100 638 L S k n H Q ↔ W (pj lw) 100 639 L (.int 0 :: S) k n H Q := W_s (rfl : (pj lw).1 100 638 = some (.iconst 0, 1, 0)) rfl rfl rfl
theorem w100_639 {x : Int32} {l0 l1 l2 l3 l4 l5 l6 l7 l8 l9 l10 l11 l12 l13 l14 l15 l16 l17 : Slot} : W (pj lw) 100 639 (l0 :: l1 :: l2 :: l3 :: l4 :: l5 :: l6 :: l7 :: l8 :: l9 :: l10 :: l11 :: l12 :: l13 :: l14 :: l15 :: l16 :: l17 :: .unset :: L) (.int x :: S) k n H Q ↔ W (pj lw) 100 641 (l0 :: l1 :: l2 :: l3 :: l4 :: l5 :: l6 :: l7 :: l8 :: l9 :: l10 :: l11 :: l12 :: l13 :: l14 :: l15 :: l16 :: l17 :: .val (.int x) :: L) S k n H Q := W_ist (rfl : (pj lw).1 100 639 = some (.istore 18, 2, 0)) rfl rfl
theorem w100_641 {x : Int32} {l0 l1 l2 l3 l4 l5 l6 l7 l8 l9 l10 l11 l12 l13 l14 l15 l16 l17 : Slot} : W (pj lw) 100 641 (l0 :: l1 :: l2 :: l3 :: l4 :: l5 :: l6 :: l7 :: l8 :: l9 :: l10 :: l11 :: l12 :: l13 :: l14 :: l15 :: l16 :: l17 :: .val (.int x) :: L) S k n H Q ↔ W (pj lw) 100 643 (l0 :: l1 :: l2 :: l3 :: l4 :: l5 :: l6 :: l7 :: l8 :: l9 :: l10 :: l11 :: l12 :: l13 :: l14 :: l15 :: l16 :: l17 :: .val (.int x) :: L) (.int x :: S) k n H Q := W_s (rfl : (pj lw).1 100 641 = some (.iload 18, 2, 0)) rfl rfl rfl
theorem w100_643 {x : Int32} : W (pj lw) 100 643 L (.int x :: S) k n H Q ↔ (if x = 0 then W (pj lw) 100 654 L S k n H Q else W (pj lw) 100 646 L S k n H Q) := W_if_eq (rfl : (pj lw).1 100 643 = some (.ifCond .eq 11, 3, 0)) rfl
theorem w100_646 {x : Int32} {l0 l1 l2 l3 l4 l5 l6 l7 l8 l9 l10 l11 l12 l13 l14 l15 l16 : Slot} : W (pj lw) 100 646 (l0 :: l1 :: l2 :: l3 :: l4 :: l5 :: l6 :: l7 :: l8 :: l9 :: l10 :: l11 :: l12 :: l13 :: l14 :: l15 :: l16 :: .val (.int x) :: L) S k n H Q ↔ W (pj lw) 100 648 (l0 :: l1 :: l2 :: l3 :: l4 :: l5 :: l6 :: l7 :: l8 :: l9 :: l10 :: l11 :: l12 :: l13 :: l14 :: l15 :: l16 :: .val (.int x) :: L) (.int x :: S) k n H Q := W_s (rfl : (pj lw).1 100 646 = some (.iload 17, 2, 0)) rfl rfl rfl
theorem w100_648 : W (pj lw) 100 648 L S k n H Q ↔ W (pj lw) 100 649 L (.int (-1) :: S) k n H Q := W_s (rfl : (pj lw).1 100 648 = some (.iconst (-1), 1, 0)) rfl rfl rfl
theorem w100_649 {x y : Int32} : W (pj lw) 100 649 L (.int y :: .int x :: S) k n H Q ↔ (if x = y then W (pj lw) 100 678 L S k n H Q else W (pj lw) 100 652 L S k n H Q) := W_icmp_eq (rfl : (pj lw).1 100 649 = some (.if_icmp .eq 29, 3, 0)) rfl
theorem w100_654 {x : Int32} {l0 l1 l2 l3 l4 l5 l6 l7 l8 l9 l10 l11 l12 l13 l14 l15 l16 : Slot} : W (pj lw) 100 654 (l0 :: l1 :: l2 :: l3 :: l4 :: l5 :: l6 :: l7 :: l8 :: l9 :: l10 :: l11 :: l12 :: l13 :: l14 :: l15 :: l16 :: .val (.int x) :: L) S k n H Q ↔ W (pj lw) 100 656 (l0 :: l1 :: l2 :: l3 :: l4 :: l5 :: l6 :: l7 :: l8 :: l9 :: l10 :: l11 :: l12 :: l13 :: l14 :: l15 :: l16 :: .val (.int x) :: L) (.int x :: S) k n H Q := W_s (rfl : (pj lw).1 100 654 = some (.iload 17, 2, 0)) rfl rfl rfl
theorem w100_656 {x : Int32} {l0 l1 l2 l3 l4 : Slot} : W (pj lw) 100 656 (l0 :: l1 :: l2 :: l3 :: l4 :: .val (.int x) :: L) S k n H Q ↔ W (pj lw) 100 658 (l0 :: l1 :: l2 :: l3 :: l4 :: .val (.int x) :: L) (.int x :: S) k n H Q := W_s (rfl : (pj lw).1 100 656 = some (.iload 5, 2, 0)) rfl rfl rfl
theorem w100_658 {x y : Int32} : W (pj lw) 100 658 L (.int y :: .int x :: S) k n H Q ↔ (if x = y then W (pj lw) 100 663 L S k n H Q else W (pj lw) 100 661 L S k n H Q) := W_icmp_eq (rfl : (pj lw).1 100 658 = some (.if_icmp .eq 5, 3, 0)) rfl
theorem w100_663 {x : Int64} {l0 l1 l2 : Slot} : W (pj lw) 100 663 (l0 :: l1 :: l2 :: .val (.long x) :: L) S k n H Q ↔ W (pj lw) 100 664 (l0 :: l1 :: l2 :: .val (.long x) :: L) (.long x :: S) k n H Q := W_s (rfl : (pj lw).1 100 663 = some (.lload_n 3, 1, 0)) rfl rfl rfl
theorem w100_664 : W (pj lw) 100 664 L S k n H Q ↔ W (pj lw) 100 665 L (.long 1 :: S) k n H Q := W_s (rfl : (pj lw).1 100 664 = some (.lconst 1, 1, 0)) rfl rfl rfl
theorem w100_665 {x : Int32} {l0 l1 l2 l3 l4 l5 l6 l7 l8 l9 l10 l11 l12 l13 : Slot} : W (pj lw) 100 665 (l0 :: l1 :: l2 :: l3 :: l4 :: l5 :: l6 :: l7 :: l8 :: l9 :: l10 :: l11 :: l12 :: l13 :: .val (.int x) :: L) S k n H Q ↔ W (pj lw) 100 667 (l0 :: l1 :: l2 :: l3 :: l4 :: l5 :: l6 :: l7 :: l8 :: l9 :: l10 :: l11 :: l12 :: l13 :: .val (.int x) :: L) (.int x :: S) k n H Q := W_s (rfl : (pj lw).1 100 665 = some (.iload 14, 2, 0)) rfl rfl rfl
theorem w100_667 {x : Int32} {l0 l1 l2 l3 l4 l5 l6 l7 l8 l9 l10 l11 l12 l13 l14 : Slot} : W (pj lw) 100 667 (l0 :: l1 :: l2 :: l3 :: l4 :: l5 :: l6 :: l7 :: l8 :: l9 :: l10 :: l11 :: l12 :: l13 :: l14 :: .val (.int x) :: L) S k n H Q ↔ W (pj lw) 100 669 (l0 :: l1 :: l2 :: l3 :: l4 :: l5 :: l6 :: l7 :: l8 :: l9 :: l10 :: l11 :: l12 :: l13 :: l14 :: .val (.int x) :: L) (.int x :: S) k n H Q := W_s (rfl : (pj lw).1 100 667 = some (.iload 15, 2, 0)) rfl rfl rfl
theorem w100_669 {x0 : Int32} {x1 : Int32} : W (pj lw) 100 669 L (.int x1 :: .int x0 :: S) k n H Q ↔ (cs S + (4 + 11) + 0 ≤ 192 ∧ Cl (pj lw) 104 [.int x0, .int x1] H (fun v H => W (pj lw) 100 672 L (v.toList ++ S) k n H Q)) := W_stat (a := [.int x0, .int x1]) (rfl : (pj lw).1 100 669 = some (.invokestatic 48, 3, 104)) rfl rfl rfl (Nat.le_of_ble_eq_true rfl) (Nat.le_of_ble_eq_true rfl) ⟨rfl, rfl⟩
theorem w100_672 {x : Int64} {y : Int32} : W (pj lw) 100 672 L (.int y :: .long x :: S) k n H Q ↔ W (pj lw) 100 673 L (.long (x <<< (y.toInt64 &&& 63)) :: S) k n H Q := W_s (rfl : (pj lw).1 100 672 = some (.lshl, 1, 0)) rfl rfl rfl
theorem w100_673 {x y : Int64} : W (pj lw) 100 673 L (.long y :: .long x :: S) k n H Q ↔ W (pj lw) 100 674 L (.long (x ||| y) :: S) k n H Q := W_s (rfl : (pj lw).1 100 673 = some (.lor, 1, 0)) rfl rfl rfl
theorem w100_674j {x y : Int64} {l0 l1 l2 : Slot} : W (pj lw) 100 674 (l0 :: l1 :: l2 :: .val (.long y) :: .second :: L) (.long x :: S) k n H Q ↔ W (pj lw) 100 675 (l0 :: l1 :: l2 :: .val (.long x) :: .second :: L) S k n H Q := W_lstn' (rfl : (pj lw).1 100 674 = some (.lstore_n 3, 1, 0)) rfl rfl
theorem w100_675 {x : Int32} {l0 l1 l2 l3 l4 : Slot} : W (pj lw) 100 675 (l0 :: l1 :: l2 :: l3 :: l4 :: .val (.int x) :: L) S k n H Q ↔ W (pj lw) 100 678 (l0 :: l1 :: l2 :: l3 :: l4 :: .val (.int (x + 1)) :: L) S k n H Q := W_s (rfl : (pj lw).1 100 675 = some (.iinc 5 1, 3, 0)) rfl rfl rfl
theorem w100_678 : W (pj lw) 100 678 L S k n H Q ↔ W (pj lw) 100 851 L S k n H Q := W_goto (rfl : (pj lw).1 100 678 = some (.goto 173, 3, 0)) rfl
theorem w100_681 {x : Int32} {l0 l1 l2 l3 l4 l5 l6 l7 l8 l9 l10 l11 l12 : Slot} : W (pj lw) 100 681 (l0 :: l1 :: l2 :: l3 :: l4 :: l5 :: l6 :: l7 :: l8 :: l9 :: l10 :: l11 :: l12 :: .val (.int x) :: L) S k n H Q ↔ W (pj lw) 100 683 (l0 :: l1 :: l2 :: l3 :: l4 :: l5 :: l6 :: l7 :: l8 :: l9 :: l10 :: l11 :: l12 :: .val (.int x) :: L) (.int x :: S) k n H Q := W_s (rfl : (pj lw).1 100 681 = some (.iload 13, 2, 0)) rfl rfl rfl
theorem w100_683 : W (pj lw) 100 683 L S k n H Q ↔ W (pj lw) 100 684 L (.int 2 :: S) k n H Q := W_s (rfl : (pj lw).1 100 683 = some (.iconst 2, 1, 0)) rfl rfl rfl
theorem w100_684 {x y : Int32} : W (pj lw) 100 684 L (.int y :: .int x :: S) k n H Q ↔ (if x = y then W (pj lw) 100 687 L S k n H Q else W (pj lw) 100 697 L S k n H Q) := W_icmp_ne (rfl : (pj lw).1 100 684 = some (.if_icmp .ne 13, 3, 0)) rfl
theorem w100_687 {x : Nat} {l0 l1 : Slot} : W (pj lw) 100 687 (l0 :: l1 :: .val (.ref x) :: L) S k n H Q ↔ W (pj lw) 100 688 (l0 :: l1 :: .val (.ref x) :: L) (.ref x :: S) k n H Q := W_s (rfl : (pj lw).1 100 687 = some (.aload_n 2, 1, 0)) rfl rfl rfl
theorem w100_688 {x : Int32} {l0 l1 l2 l3 l4 l5 l6 l7 l8 l9 l10 l11 l12 l13 : Slot} : W (pj lw) 100 688 (l0 :: l1 :: l2 :: l3 :: l4 :: l5 :: l6 :: l7 :: l8 :: l9 :: l10 :: l11 :: l12 :: l13 :: .val (.int x) :: L) S k n H Q ↔ W (pj lw) 100 690 (l0 :: l1 :: l2 :: l3 :: l4 :: l5 :: l6 :: l7 :: l8 :: l9 :: l10 :: l11 :: l12 :: l13 :: .val (.int x) :: L) (.int x :: S) k n H Q := W_s (rfl : (pj lw).1 100 688 = some (.iload 14, 2, 0)) rfl rfl rfl
theorem w100_690 {a : Nat} {x0 : Int32} : W (pj lw) 100 690 L (.int x0 :: .ref a :: S) k n H Q ↔ ((isO H a = true ∧ cs S + (2 + 11) + 13 ≤ 192) ∧ Cl (pj lw) 5 [.ref a, .int x0] H (fun v H => W (pj lw) 100 693 L (v.toList ++ S) k n H Q)) := W_inst (as := [.int x0]) (rfl : (pj lw).1 100 690 = some (.invokevirtual 58, 3, 5)) rfl rfl rfl (Nat.le_of_ble_eq_true rfl) (Nat.le_of_ble_eq_true rfl) ⟨rfl, rfl⟩
theorem w100_693 {x : Int32} : W (pj lw) 100 693 L (.int x :: S) k n H Q ↔ W (pj lw) 100 694 L S k n H Q := W_s (rfl : (pj lw).1 100 693 = some (.pop, 1, 0)) rfl rfl rfl
theorem w100_694 : W (pj lw) 100 694 L S k n H Q ↔ W (pj lw) 100 851 L S k n H Q := W_goto (rfl : (pj lw).1 100 694 = some (.goto 157, 3, 0)) rfl
theorem w100_697 {x : Int32} {l0 l1 l2 l3 l4 l5 l6 l7 l8 l9 l10 l11 l12 : Slot} : W (pj lw) 100 697 (l0 :: l1 :: l2 :: l3 :: l4 :: l5 :: l6 :: l7 :: l8 :: l9 :: l10 :: l11 :: l12 :: .val (.int x) :: L) S k n H Q ↔ W (pj lw) 100 699 (l0 :: l1 :: l2 :: l3 :: l4 :: l5 :: l6 :: l7 :: l8 :: l9 :: l10 :: l11 :: l12 :: .val (.int x) :: L) (.int x :: S) k n H Q := W_s (rfl : (pj lw).1 100 697 = some (.iload 13, 2, 0)) rfl rfl rfl
theorem w100_699 : W (pj lw) 100 699 L S k n H Q ↔ W (pj lw) 100 700 L (.int 3 :: S) k n H Q := W_s (rfl : (pj lw).1 100 699 = some (.iconst 3, 1, 0)) rfl rfl rfl
theorem w100_700 {x y : Int32} : W (pj lw) 100 700 L (.int y :: .int x :: S) k n H Q ↔ (if x = y then W (pj lw) 100 703 L S k n H Q else W (pj lw) 100 713 L S k n H Q) := W_icmp_ne (rfl : (pj lw).1 100 700 = some (.if_icmp .ne 13, 3, 0)) rfl
theorem w100_703 {x : Nat} {l0 l1 : Slot} : W (pj lw) 100 703 (l0 :: l1 :: .val (.ref x) :: L) S k n H Q ↔ W (pj lw) 100 704 (l0 :: l1 :: .val (.ref x) :: L) (.ref x :: S) k n H Q := W_s (rfl : (pj lw).1 100 703 = some (.aload_n 2, 1, 0)) rfl rfl rfl
theorem w100_704 {x : Int32} {l0 l1 l2 l3 l4 l5 l6 l7 l8 l9 l10 l11 l12 l13 : Slot} : W (pj lw) 100 704 (l0 :: l1 :: l2 :: l3 :: l4 :: l5 :: l6 :: l7 :: l8 :: l9 :: l10 :: l11 :: l12 :: l13 :: .val (.int x) :: L) S k n H Q ↔ W (pj lw) 100 706 (l0 :: l1 :: l2 :: l3 :: l4 :: l5 :: l6 :: l7 :: l8 :: l9 :: l10 :: l11 :: l12 :: l13 :: .val (.int x) :: L) (.int x :: S) k n H Q := W_s (rfl : (pj lw).1 100 704 = some (.iload 14, 2, 0)) rfl rfl rfl
theorem w100_706 {a : Nat} {x0 : Int32} : W (pj lw) 100 706 L (.int x0 :: .ref a :: S) k n H Q ↔ ((isO H a = true ∧ cs S + (2 + 11) + 13 ≤ 192) ∧ Cl (pj lw) 6 [.ref a, .int x0] H (fun v H => W (pj lw) 100 709 L (v.toList ++ S) k n H Q)) := W_inst (as := [.int x0]) (rfl : (pj lw).1 100 706 = some (.invokevirtual 62, 3, 6)) rfl rfl rfl (Nat.le_of_ble_eq_true rfl) (Nat.le_of_ble_eq_true rfl) ⟨rfl, rfl⟩
theorem w100_709 {x : Int32} : W (pj lw) 100 709 L (.int x :: S) k n H Q ↔ W (pj lw) 100 710 L S k n H Q := W_s (rfl : (pj lw).1 100 709 = some (.pop, 1, 0)) rfl rfl rfl
theorem w100_710 : W (pj lw) 100 710 L S k n H Q ↔ W (pj lw) 100 851 L S k n H Q := W_goto (rfl : (pj lw).1 100 710 = some (.goto 141, 3, 0)) rfl
theorem w100_713 : W (pj lw) 100 713 L S k n H Q ↔ W (pj lw) 100 714 L (.long 0 :: S) k n H Q := W_s (rfl : (pj lw).1 100 713 = some (.lconst 0, 1, 0)) rfl rfl rfl
theorem w100_714uu {x : Int64} {l0 l1 l2 l3 l4 l5 l6 l7 l8 l9 l10 l11 l12 l13 l14 l15 : Slot} : W (pj lw) 100 714 (l0 :: l1 :: l2 :: l3 :: l4 :: l5 :: l6 :: l7 :: l8 :: l9 :: l10 :: l11 :: l12 :: l13 :: l14 :: l15 :: .unset :: .unset :: L) (.long x :: S) k n H Q ↔ W (pj lw) 100 716 (l0 :: l1 :: l2 :: l3 :: l4 :: l5 :: l6 :: l7 :: l8 :: l9 :: l10 :: l11 :: l12 :: l13 :: l14 :: l15 :: .val (.long x) :: .second :: L) S k n H Q := W_lst (rfl : (pj lw).1 100 714 = some (.lstore 16, 2, 0)) rfl rfl rfl rfl
theorem w100_716 : W (pj lw) 100 716 L S k n H Q ↔ W (pj lw) 100 717 L (.int 0 :: S) k n H Q := W_s (rfl : (pj lw).1 100 716 = some (.iconst 0, 1, 0)) rfl rfl rfl
theorem w100_717 {x : Int32} {l0 l1 l2 l3 l4 l5 l6 l7 l8 l9 l10 l11 l12 l13 l14 l15 l16 l17 : Slot} : W (pj lw) 100 717 (l0 :: l1 :: l2 :: l3 :: l4 :: l5 :: l6 :: l7 :: l8 :: l9 :: l10 :: l11 :: l12 :: l13 :: l14 :: l15 :: l16 :: l17 :: .unset :: L) (.int x :: S) k n H Q ↔ W (pj lw) 100 719 (l0 :: l1 :: l2 :: l3 :: l4 :: l5 :: l6 :: l7 :: l8 :: l9 :: l10 :: l11 :: l12 :: l13 :: l14 :: l15 :: l16 :: l17 :: .val (.int x) :: L) S k n H Q := W_ist (rfl : (pj lw).1 100 717 = some (.istore 18, 2, 0)) rfl rfl
theorem w100_719 {x : Int32} {l0 l1 l2 l3 l4 l5 l6 l7 l8 l9 l10 l11 l12 l13 l14 l15 l16 l17 : Slot} : W (pj lw) 100 719 (l0 :: l1 :: l2 :: l3 :: l4 :: l5 :: l6 :: l7 :: l8 :: l9 :: l10 :: l11 :: l12 :: l13 :: l14 :: l15 :: l16 :: l17 :: .val (.int x) :: L) S k n H Q ↔ W (pj lw) 100 721 (l0 :: l1 :: l2 :: l3 :: l4 :: l5 :: l6 :: l7 :: l8 :: l9 :: l10 :: l11 :: l12 :: l13 :: l14 :: l15 :: l16 :: l17 :: .val (.int x) :: L) (.int x :: S) k n H Q := W_s (rfl : (pj lw).1 100 719 = some (.iload 18, 2, 0)) rfl rfl rfl
theorem w100_721 {x : Int32} {l0 : Slot} : W (pj lw) 100 721 (l0 :: .val (.int x) :: L) S k n H Q ↔ W (pj lw) 100 722 (l0 :: .val (.int x) :: L) (.int x :: S) k n H Q := W_s (rfl : (pj lw).1 100 721 = some (.iload_n 1, 1, 0)) rfl rfl rfl
theorem w100_722 {x y : Int32} : W (pj lw) 100 722 L (.int y :: .int x :: S) k n H Q ↔ (if x < y then W (pj lw) 100 725 L S k n H Q else W (pj lw) 100 749 L S k n H Q) := W_icmp_ge (rfl : (pj lw).1 100 722 = some (.if_icmp .ge 27, 3, 0)) rfl
theorem w100_725 {x : Nat} {l0 l1 : Slot} : W (pj lw) 100 725 (l0 :: l1 :: .val (.ref x) :: L) S k n H Q ↔ W (pj lw) 100 726 (l0 :: l1 :: .val (.ref x) :: L) (.ref x :: S) k n H Q := W_s (rfl : (pj lw).1 100 725 = some (.aload_n 2, 1, 0)) rfl rfl rfl
theorem w100_726 {x : Int32} {l0 l1 l2 l3 l4 l5 l6 l7 l8 l9 l10 l11 l12 l13 l14 l15 l16 l17 : Slot} : W (pj lw) 100 726 (l0 :: l1 :: l2 :: l3 :: l4 :: l5 :: l6 :: l7 :: l8 :: l9 :: l10 :: l11 :: l12 :: l13 :: l14 :: l15 :: l16 :: l17 :: .val (.int x) :: L) S k n H Q ↔ W (pj lw) 100 728 (l0 :: l1 :: l2 :: l3 :: l4 :: l5 :: l6 :: l7 :: l8 :: l9 :: l10 :: l11 :: l12 :: l13 :: l14 :: l15 :: l16 :: l17 :: .val (.int x) :: L) (.int x :: S) k n H Q := W_s (rfl : (pj lw).1 100 726 = some (.iload 18, 2, 0)) rfl rfl rfl
theorem w100_728 {a : Nat} {x0 : Int32} : W (pj lw) 100 728 L (.int x0 :: .ref a :: S) k n H Q ↔ ((isO H a = true ∧ cs S + (2 + 11) + 13 ≤ 192) ∧ Cl (pj lw) 10 [.ref a, .int x0] H (fun v H => W (pj lw) 100 731 L (v.toList ++ S) k n H Q)) := W_inst (as := [.int x0]) (rfl : (pj lw).1 100 728 = some (.invokevirtual 65, 3, 10)) rfl rfl rfl (Nat.le_of_ble_eq_true rfl) (Nat.le_of_ble_eq_true rfl) ⟨rfl, rfl⟩
theorem w100_731 {x : Int32} : W (pj lw) 100 731 L (.int x :: S) k n H Q ↔ (if 0 < x then W (pj lw) 100 734 L S k n H Q else W (pj lw) 100 743 L S k n H Q) := W_if_le (rfl : (pj lw).1 100 731 = some (.ifCond .le 12, 3, 0)) rfl
theorem w100_734 {x : Int64} {l0 l1 l2 l3 l4 l5 l6 l7 l8 l9 l10 l11 l12 l13 l14 l15 : Slot} : W (pj lw) 100 734 (l0 :: l1 :: l2 :: l3 :: l4 :: l5 :: l6 :: l7 :: l8 :: l9 :: l10 :: l11 :: l12 :: l13 :: l14 :: l15 :: .val (.long x) :: L) S k n H Q ↔ W (pj lw) 100 736 (l0 :: l1 :: l2 :: l3 :: l4 :: l5 :: l6 :: l7 :: l8 :: l9 :: l10 :: l11 :: l12 :: l13 :: l14 :: l15 :: .val (.long x) :: L) (.long x :: S) k n H Q := W_s (rfl : (pj lw).1 100 734 = some (.lload 16, 2, 0)) rfl rfl rfl
theorem w100_736 : W (pj lw) 100 736 L S k n H Q ↔ W (pj lw) 100 737 L (.long 1 :: S) k n H Q := W_s (rfl : (pj lw).1 100 736 = some (.lconst 1, 1, 0)) rfl rfl rfl
theorem w100_737 {x : Int32} {l0 l1 l2 l3 l4 l5 l6 l7 l8 l9 l10 l11 l12 l13 l14 l15 l16 l17 : Slot} : W (pj lw) 100 737 (l0 :: l1 :: l2 :: l3 :: l4 :: l5 :: l6 :: l7 :: l8 :: l9 :: l10 :: l11 :: l12 :: l13 :: l14 :: l15 :: l16 :: l17 :: .val (.int x) :: L) S k n H Q ↔ W (pj lw) 100 739 (l0 :: l1 :: l2 :: l3 :: l4 :: l5 :: l6 :: l7 :: l8 :: l9 :: l10 :: l11 :: l12 :: l13 :: l14 :: l15 :: l16 :: l17 :: .val (.int x) :: L) (.int x :: S) k n H Q := W_s (rfl : (pj lw).1 100 737 = some (.iload 18, 2, 0)) rfl rfl rfl
theorem w100_739 {x : Int64} {y : Int32} : W (pj lw) 100 739 L (.int y :: .long x :: S) k n H Q ↔ W (pj lw) 100 740 L (.long (x <<< (y.toInt64 &&& 63)) :: S) k n H Q := W_s (rfl : (pj lw).1 100 739 = some (.lshl, 1, 0)) rfl rfl rfl
theorem w100_740 {x y : Int64} : W (pj lw) 100 740 L (.long y :: .long x :: S) k n H Q ↔ W (pj lw) 100 741 L (.long (x ||| y) :: S) k n H Q := W_s (rfl : (pj lw).1 100 740 = some (.lor, 1, 0)) rfl rfl rfl
theorem w100_741j {x y : Int64} {l0 l1 l2 l3 l4 l5 l6 l7 l8 l9 l10 l11 l12 l13 l14 l15 : Slot} : W (pj lw) 100 741 (l0 :: l1 :: l2 :: l3 :: l4 :: l5 :: l6 :: l7 :: l8 :: l9 :: l10 :: l11 :: l12 :: l13 :: l14 :: l15 :: .val (.long y) :: .second :: L) (.long x :: S) k n H Q ↔ W (pj lw) 100 743 (l0 :: l1 :: l2 :: l3 :: l4 :: l5 :: l6 :: l7 :: l8 :: l9 :: l10 :: l11 :: l12 :: l13 :: l14 :: l15 :: .val (.long x) :: .second :: L) S k n H Q := W_lst' (rfl : (pj lw).1 100 741 = some (.lstore 16, 2, 0)) rfl rfl
theorem w100_743 {x : Int32} {l0 l1 l2 l3 l4 l5 l6 l7 l8 l9 l10 l11 l12 l13 l14 l15 l16 l17 : Slot} : W (pj lw) 100 743 (l0 :: l1 :: l2 :: l3 :: l4 :: l5 :: l6 :: l7 :: l8 :: l9 :: l10 :: l11 :: l12 :: l13 :: l14 :: l15 :: l16 :: l17 :: .val (.int x) :: L) S k n H Q ↔ W (pj lw) 100 746 (l0 :: l1 :: l2 :: l3 :: l4 :: l5 :: l6 :: l7 :: l8 :: l9 :: l10 :: l11 :: l12 :: l13 :: l14 :: l15 :: l16 :: l17 :: .val (.int (x + 1)) :: L) S k n H Q := W_s (rfl : (pj lw).1 100 743 = some (.iinc 18 1, 3, 0)) rfl rfl rfl
theorem w100_746 : W (pj lw) 100 746 L S k n H Q ↔ W (pj lw) 100 719 L S k n H Q := W_goto (rfl : (pj lw).1 100 746 = some (.goto (-27), 3, 0)) rfl
theorem w100_749 {x : Nat} {l0 l1 : Slot} : W (pj lw) 100 749 (l0 :: l1 :: .val (.ref x) :: L) S k n H Q ↔ W (pj lw) 100 750 (l0 :: l1 :: .val (.ref x) :: L) (.ref x :: S) k n H Q := W_s (rfl : (pj lw).1 100 749 = some (.aload_n 2, 1, 0)) rfl rfl rfl
theorem w100_750 : W (pj lw) 100 750 L S k n H Q ↔ W (pj lw) 100 751 L (.int 1 :: S) k n H Q := W_s (rfl : (pj lw).1 100 750 = some (.iconst 1, 1, 0)) rfl rfl rfl
theorem w100_751 {a : Nat} {x0 : Int32} : W (pj lw) 100 751 L (.int x0 :: .ref a :: S) k n H Q ↔ ((isO H a = true ∧ cs S + (4 + 11) + 55 ≤ 192) ∧ Cl (pj lw) 7 [.ref a, .int x0] H (fun v H => W (pj lw) 100 754 L (v.toList ++ S) k n H Q)) := W_inst (as := [.int x0]) (rfl : (pj lw).1 100 751 = some (.invokevirtual 68, 3, 7)) rfl rfl rfl (Nat.le_of_ble_eq_true rfl) (Nat.le_of_ble_eq_true rfl) ⟨rfl, rfl⟩
theorem w100_754i {y : Int32} {x : Int32} {l0 l1 l2 l3 l4 l5 l6 l7 l8 l9 l10 l11 l12 l13 l14 l15 l16 l17 : Slot} : W (pj lw) 100 754 (l0 :: l1 :: l2 :: l3 :: l4 :: l5 :: l6 :: l7 :: l8 :: l9 :: l10 :: l11 :: l12 :: l13 :: l14 :: l15 :: l16 :: l17 :: .val (.int y) :: L) (.int x :: S) k n H Q ↔ W (pj lw) 100 756 (l0 :: l1 :: l2 :: l3 :: l4 :: l5 :: l6 :: l7 :: l8 :: l9 :: l10 :: l11 :: l12 :: l13 :: l14 :: l15 :: l16 :: l17 :: .val (.int x) :: L) S k n H Q := W_ist (rfl : (pj lw).1 100 754 = some (.istore 18, 2, 0)) rfl rfl
theorem w100_756 {x : Int32} {l0 l1 l2 l3 l4 l5 l6 l7 : Slot} : W (pj lw) 100 756 (l0 :: l1 :: l2 :: l3 :: l4 :: l5 :: l6 :: l7 :: .val (.int x) :: L) S k n H Q ↔ W (pj lw) 100 759 (l0 :: l1 :: l2 :: l3 :: l4 :: l5 :: l6 :: l7 :: .val (.int (x + 1)) :: L) S k n H Q := W_s (rfl : (pj lw).1 100 756 = some (.iinc 8 1, 3, 0)) rfl rfl rfl
theorem w100_759 {x : Int32} {l0 l1 l2 l3 l4 l5 l6 l7 l8 l9 l10 l11 l12 l13 l14 l15 l16 l17 : Slot} : W (pj lw) 100 759 (l0 :: l1 :: l2 :: l3 :: l4 :: l5 :: l6 :: l7 :: l8 :: l9 :: l10 :: l11 :: l12 :: l13 :: l14 :: l15 :: l16 :: l17 :: .val (.int x) :: L) S k n H Q ↔ W (pj lw) 100 761 (l0 :: l1 :: l2 :: l3 :: l4 :: l5 :: l6 :: l7 :: l8 :: l9 :: l10 :: l11 :: l12 :: l13 :: l14 :: l15 :: l16 :: l17 :: .val (.int x) :: L) (.int x :: S) k n H Q := W_s (rfl : (pj lw).1 100 759 = some (.iload 18, 2, 0)) rfl rfl rfl
theorem w100_761 {x : Int32} {l0 l1 l2 l3 l4 l5 l6 l7 : Slot} : W (pj lw) 100 761 (l0 :: l1 :: l2 :: l3 :: l4 :: l5 :: l6 :: l7 :: .val (.int x) :: L) S k n H Q ↔ W (pj lw) 100 763 (l0 :: l1 :: l2 :: l3 :: l4 :: l5 :: l6 :: l7 :: .val (.int x) :: L) (.int x :: S) k n H Q := W_s (rfl : (pj lw).1 100 761 = some (.iload 8, 2, 0)) rfl rfl rfl
theorem w100_763 {x y : Int32} : W (pj lw) 100 763 L (.int y :: .int x :: S) k n H Q ↔ (if x = y then W (pj lw) 100 768 L S k n H Q else W (pj lw) 100 766 L S k n H Q) := W_icmp_eq (rfl : (pj lw).1 100 763 = some (.if_icmp .eq 5, 3, 0)) rfl
theorem w100_768 : W (pj lw) 100 768 L S k n H Q ↔ W (pj lw) 100 769 L (.int 0 :: S) k n H Q := W_s (rfl : (pj lw).1 100 768 = some (.iconst 0, 1, 0)) rfl rfl rfl
theorem w100_769 {x : Int32} {l0 l1 l2 l3 l4 l5 l6 l7 l8 l9 l10 l11 l12 l13 l14 l15 l16 l17 l18 : Slot} : W (pj lw) 100 769 (l0 :: l1 :: l2 :: l3 :: l4 :: l5 :: l6 :: l7 :: l8 :: l9 :: l10 :: l11 :: l12 :: l13 :: l14 :: l15 :: l16 :: l17 :: l18 :: .unset :: L) (.int x :: S) k n H Q ↔ W (pj lw) 100 771 (l0 :: l1 :: l2 :: l3 :: l4 :: l5 :: l6 :: l7 :: l8 :: l9 :: l10 :: l11 :: l12 :: l13 :: l14 :: l15 :: l16 :: l17 :: l18 :: .val (.int x) :: L) S k n H Q := W_ist (rfl : (pj lw).1 100 769 = some (.istore 19, 2, 0)) rfl rfl
theorem w100_771 {x : Int32} {l0 l1 l2 l3 l4 l5 l6 l7 l8 l9 l10 l11 l12 l13 l14 l15 l16 l17 l18 : Slot} : W (pj lw) 100 771 (l0 :: l1 :: l2 :: l3 :: l4 :: l5 :: l6 :: l7 :: l8 :: l9 :: l10 :: l11 :: l12 :: l13 :: l14 :: l15 :: l16 :: l17 :: l18 :: .val (.int x) :: L) S k n H Q ↔ W (pj lw) 100 773 (l0 :: l1 :: l2 :: l3 :: l4 :: l5 :: l6 :: l7 :: l8 :: l9 :: l10 :: l11 :: l12 :: l13 :: l14 :: l15 :: l16 :: l17 :: l18 :: .val (.int x) :: L) (.int x :: S) k n H Q := W_s (rfl : (pj lw).1 100 771 = some (.iload 19, 2, 0)) rfl rfl rfl
theorem w100_773 {x : Int32} {l0 : Slot} : W (pj lw) 100 773 (l0 :: .val (.int x) :: L) S k n H Q ↔ W (pj lw) 100 774 (l0 :: .val (.int x) :: L) (.int x :: S) k n H Q := W_s (rfl : (pj lw).1 100 773 = some (.iload_n 1, 1, 0)) rfl rfl rfl
theorem w100_774 {x y : Int32} : W (pj lw) 100 774 L (.int y :: .int x :: S) k n H Q ↔ (if x < y then W (pj lw) 100 777 L S k n H Q else W (pj lw) 100 851 L S k n H Q) := W_icmp_ge (rfl : (pj lw).1 100 774 = some (.if_icmp .ge 77, 3, 0)) rfl
theorem w100_777 {x : Nat} {l0 l1 : Slot} : W (pj lw) 100 777 (l0 :: l1 :: .val (.ref x) :: L) S k n H Q ↔ W (pj lw) 100 778 (l0 :: l1 :: .val (.ref x) :: L) (.ref x :: S) k n H Q := W_s (rfl : (pj lw).1 100 777 = some (.aload_n 2, 1, 0)) rfl rfl rfl
theorem w100_778 {x : Int32} {l0 l1 l2 l3 l4 l5 l6 l7 l8 l9 l10 l11 l12 l13 l14 l15 l16 l17 l18 : Slot} : W (pj lw) 100 778 (l0 :: l1 :: l2 :: l3 :: l4 :: l5 :: l6 :: l7 :: l8 :: l9 :: l10 :: l11 :: l12 :: l13 :: l14 :: l15 :: l16 :: l17 :: l18 :: .val (.int x) :: L) S k n H Q ↔ W (pj lw) 100 780 (l0 :: l1 :: l2 :: l3 :: l4 :: l5 :: l6 :: l7 :: l8 :: l9 :: l10 :: l11 :: l12 :: l13 :: l14 :: l15 :: l16 :: l17 :: l18 :: .val (.int x) :: L) (.int x :: S) k n H Q := W_s (rfl : (pj lw).1 100 778 = some (.iload 19, 2, 0)) rfl rfl rfl
theorem w100_780 {a : Nat} {x0 : Int32} : W (pj lw) 100 780 L (.int x0 :: .ref a :: S) k n H Q ↔ ((isO H a = true ∧ cs S + (2 + 11) + 13 ≤ 192) ∧ Cl (pj lw) 13 [.ref a, .int x0] H (fun v H => W (pj lw) 100 783 L (v.toList ++ S) k n H Q)) := W_inst (as := [.int x0]) (rfl : (pj lw).1 100 780 = some (.invokevirtual 45, 3, 13)) rfl rfl rfl (Nat.le_of_ble_eq_true rfl) (Nat.le_of_ble_eq_true rfl) ⟨rfl, rfl⟩
theorem w100_783 {x : Int32} {l0 l1 l2 l3 l4 l5 l6 l7 : Slot} : W (pj lw) 100 783 (l0 :: l1 :: l2 :: l3 :: l4 :: l5 :: l6 :: l7 :: .val (.int x) :: L) S k n H Q ↔ W (pj lw) 100 785 (l0 :: l1 :: l2 :: l3 :: l4 :: l5 :: l6 :: l7 :: .val (.int x) :: L) (.int x :: S) k n H Q := W_s (rfl : (pj lw).1 100 783 = some (.iload 8, 2, 0)) rfl rfl rfl
theorem w100_785 {x y : Int32} : W (pj lw) 100 785 L (.int y :: .int x :: S) k n H Q ↔ (if x = y then W (pj lw) 100 788 L S k n H Q else W (pj lw) 100 845 L S k n H Q) := W_icmp_ne (rfl : (pj lw).1 100 785 = some (.if_icmp .ne 60, 3, 0)) rfl
theorem w100_788 {x : Nat} {l0 l1 : Slot} : W (pj lw) 100 788 (l0 :: l1 :: .val (.ref x) :: L) S k n H Q ↔ W (pj lw) 100 789 (l0 :: l1 :: .val (.ref x) :: L) (.ref x :: S) k n H Q := W_s (rfl : (pj lw).1 100 788 = some (.aload_n 2, 1, 0)) rfl rfl rfl
theorem w100_789 {x : Int32} {l0 l1 l2 l3 l4 l5 l6 l7 l8 l9 l10 l11 l12 l13 l14 l15 l16 l17 l18 : Slot} : W (pj lw) 100 789 (l0 :: l1 :: l2 :: l3 :: l4 :: l5 :: l6 :: l7 :: l8 :: l9 :: l10 :: l11 :: l12 :: l13 :: l14 :: l15 :: l16 :: l17 :: l18 :: .val (.int x) :: L) S k n H Q ↔ W (pj lw) 100 791 (l0 :: l1 :: l2 :: l3 :: l4 :: l5 :: l6 :: l7 :: l8 :: l9 :: l10 :: l11 :: l12 :: l13 :: l14 :: l15 :: l16 :: l17 :: l18 :: .val (.int x) :: L) (.int x :: S) k n H Q := W_s (rfl : (pj lw).1 100 789 = some (.iload 19, 2, 0)) rfl rfl rfl
theorem w100_791 {a : Nat} {x0 : Int32} : W (pj lw) 100 791 L (.int x0 :: .ref a :: S) k n H Q ↔ ((isO H a = true ∧ cs S + (2 + 11) + 13 ≤ 192) ∧ Cl (pj lw) 12 [.ref a, .int x0] H (fun v H => W (pj lw) 100 794 L (v.toList ++ S) k n H Q)) := W_inst (as := [.int x0]) (rfl : (pj lw).1 100 791 = some (.invokevirtual 39, 3, 12)) rfl rfl rfl (Nat.le_of_ble_eq_true rfl) (Nat.le_of_ble_eq_true rfl) ⟨rfl, rfl⟩
theorem w100_794 : W (pj lw) 100 794 L S k n H Q ↔ W (pj lw) 100 795 L (.int (-1) :: S) k n H Q := W_s (rfl : (pj lw).1 100 794 = some (.iconst (-1), 1, 0)) rfl rfl rfl
theorem w100_795 {x y : Int32} : W (pj lw) 100 795 L (.int y :: .int x :: S) k n H Q ↔ (if x = y then W (pj lw) 100 845 L S k n H Q else W (pj lw) 100 798 L S k n H Q) := W_icmp_eq (rfl : (pj lw).1 100 795 = some (.if_icmp .eq 50, 3, 0)) rfl
theorem w100_798 {x : Int64} {l0 l1 l2 l3 l4 l5 l6 l7 l8 l9 l10 l11 l12 l13 l14 l15 : Slot} : W (pj lw) 100 798 (l0 :: l1 :: l2 :: l3 :: l4 :: l5 :: l6 :: l7 :: l8 :: l9 :: l10 :: l11 :: l12 :: l13 :: l14 :: l15 :: .val (.long x) :: L) S k n H Q ↔ W (pj lw) 100 800 (l0 :: l1 :: l2 :: l3 :: l4 :: l5 :: l6 :: l7 :: l8 :: l9 :: l10 :: l11 :: l12 :: l13 :: l14 :: l15 :: .val (.long x) :: L) (.long x :: S) k n H Q := W_s (rfl : (pj lw).1 100 798 = some (.lload 16, 2, 0)) rfl rfl rfl
theorem w100_800 {x : Int32} {l0 l1 l2 l3 l4 l5 l6 l7 l8 l9 l10 l11 l12 l13 l14 l15 l16 l17 l18 : Slot} : W (pj lw) 100 800 (l0 :: l1 :: l2 :: l3 :: l4 :: l5 :: l6 :: l7 :: l8 :: l9 :: l10 :: l11 :: l12 :: l13 :: l14 :: l15 :: l16 :: l17 :: l18 :: .val (.int x) :: L) S k n H Q ↔ W (pj lw) 100 802 (l0 :: l1 :: l2 :: l3 :: l4 :: l5 :: l6 :: l7 :: l8 :: l9 :: l10 :: l11 :: l12 :: l13 :: l14 :: l15 :: l16 :: l17 :: l18 :: .val (.int x) :: L) (.int x :: S) k n H Q := W_s (rfl : (pj lw).1 100 800 = some (.iload 19, 2, 0)) rfl rfl rfl
theorem w100_802 {x : Int64} {y : Int32} : W (pj lw) 100 802 L (.int y :: .long x :: S) k n H Q ↔ W (pj lw) 100 803 L (.long (Jvm.Free.XT.ushrL x y) :: S) k n H Q := W_s (rfl : (pj lw).1 100 802 = some (.lushr, 1, 0)) rfl rfl rfl
theorem w100_803 : W (pj lw) 100 803 L S k n H Q ↔ W (pj lw) 100 804 L (.long 1 :: S) k n H Q := W_s (rfl : (pj lw).1 100 803 = some (.lconst 1, 1, 0)) rfl rfl rfl
theorem w100_804 {x y : Int64} : W (pj lw) 100 804 L (.long y :: .long x :: S) k n H Q ↔ W (pj lw) 100 805 L (.long (x &&& y) :: S) k n H Q := W_s (rfl : (pj lw).1 100 804 = some (.land, 1, 0)) rfl rfl rfl
theorem w100_805 : W (pj lw) 100 805 L S k n H Q ↔ W (pj lw) 100 806 L (.long 0 :: S) k n H Q := W_s (rfl : (pj lw).1 100 805 = some (.lconst 0, 1, 0)) rfl rfl rfl
theorem w100_806 {x y : Int64} : W (pj lw) 100 806 L (.long y :: .long x :: S) k n H Q ↔ W (pj lw) 100 807 L (.int (Jvm.Free.XT.cmpL x y) :: S) k n H Q := W_s (rfl : (pj lw).1 100 806 = some (.lcmp, 1, 0)) rfl rfl rfl
theorem w100_807 {x : Int32} : W (pj lw) 100 807 L (.int x :: S) k n H Q ↔ (if x = 0 then W (pj lw) 100 812 L S k n H Q else W (pj lw) 100 810 L S k n H Q) := W_if_eq (rfl : (pj lw).1 100 807 = some (.ifCond .eq 5, 3, 0)) rfl
theorem w100_812 {x : Nat} {l0 l1 : Slot} : W (pj lw) 100 812 (l0 :: l1 :: .val (.ref x) :: L) S k n H Q ↔ W (pj lw) 100 813 (l0 :: l1 :: .val (.ref x) :: L) (.ref x :: S) k n H Q := W_s (rfl : (pj lw).1 100 812 = some (.aload_n 2, 1, 0)) rfl rfl rfl
theorem w100_813 {x : Int32} {l0 l1 l2 l3 l4 l5 l6 l7 l8 l9 l10 l11 l12 l13 l14 l15 l16 l17 l18 : Slot} : W (pj lw) 100 813 (l0 :: l1 :: l2 :: l3 :: l4 :: l5 :: l6 :: l7 :: l8 :: l9 :: l10 :: l11 :: l12 :: l13 :: l14 :: l15 :: l16 :: l17 :: l18 :: .val (.int x) :: L) S k n H Q ↔ W (pj lw) 100 815 (l0 :: l1 :: l2 :: l3 :: l4 :: l5 :: l6 :: l7 :: l8 :: l9 :: l10 :: l11 :: l12 :: l13 :: l14 :: l15 :: l16 :: l17 :: l18 :: .val (.int x) :: L) (.int x :: S) k n H Q := W_s (rfl : (pj lw).1 100 813 = some (.iload 19, 2, 0)) rfl rfl rfl
theorem w100_815 {a : Nat} {x0 : Int32} : W (pj lw) 100 815 L (.int x0 :: .ref a :: S) k n H Q ↔ ((isO H a = true ∧ cs S + (2 + 11) + 13 ≤ 192) ∧ Cl (pj lw) 12 [.ref a, .int x0] H (fun v H => W (pj lw) 100 818 L (v.toList ++ S) k n H Q)) := W_inst (as := [.int x0]) (rfl : (pj lw).1 100 815 = some (.invokevirtual 39, 3, 12)) rfl rfl rfl (Nat.le_of_ble_eq_true rfl) (Nat.le_of_ble_eq_true rfl) ⟨rfl, rfl⟩
theorem w100_818 {x : Int32} {l0 l1 l2 l3 l4 l5 l6 l7 l8 l9 l10 l11 l12 l13 l14 l15 l16 l17 l18 l19 : Slot} : W (pj lw) 100 818 (l0 :: l1 :: l2 :: l3 :: l4 :: l5 :: l6 :: l7 :: l8 :: l9 :: l10 :: l11 :: l12 :: l13 :: l14 :: l15 :: l16 :: l17 :: l18 :: l19 :: .unset :: L) (.int x :: S) k n H Q ↔ W (pj lw) 100 820 (l0 :: l1 :: l2 :: l3 :: l4 :: l5 :: l6 :: l7 :: l8 :: l9 :: l10 :: l11 :: l12 :: l13 :: l14 :: l15 :: l16 :: l17 :: l18 :: l19 :: .val (.int x) :: L) S k n H Q := W_ist (rfl : (pj lw).1 100 818 = some (.istore 20, 2, 0)) rfl rfl
theorem w100_820 {x : Int32} {l0 l1 l2 l3 l4 l5 l6 l7 l8 l9 l10 l11 l12 l13 l14 l15 l16 l17 l18 l19 : Slot} : W (pj lw) 100 820 (l0 :: l1 :: l2 :: l3 :: l4 :: l5 :: l6 :: l7 :: l8 :: l9 :: l10 :: l11 :: l12 :: l13 :: l14 :: l15 :: l16 :: l17 :: l18 :: l19 :: .val (.int x) :: L) S k n H Q ↔ W (pj lw) 100 822 (l0 :: l1 :: l2 :: l3 :: l4 :: l5 :: l6 :: l7 :: l8 :: l9 :: l10 :: l11 :: l12 :: l13 :: l14 :: l15 :: l16 :: l17 :: l18 :: l19 :: .val (.int x) :: L) (.int x :: S) k n H Q := W_s (rfl : (pj lw).1 100 820 = some (.iload 20, 2, 0)) rfl rfl rfl
theorem w100_822 {x : Int32} : W (pj lw) 100 822 L (.int x :: S) k n H Q ↔ (if x < 0 then W (pj lw) 100 845 L S k n H Q else W (pj lw) 100 825 L S k n H Q) := W_if_lt (rfl : (pj lw).1 100 822 = some (.ifCond .lt 23, 3, 0)) rfl
theorem w100_825 {x : Int32} {l0 l1 l2 l3 l4 l5 l6 l7 l8 l9 l10 l11 l12 l13 l14 l15 l16 l17 l18 l19 : Slot} : W (pj lw) 100 825 (l0 :: l1 :: l2 :: l3 :: l4 :: l5 :: l6 :: l7 :: l8 :: l9 :: l10 :: l11 :: l12 :: l13 :: l14 :: l15 :: l16 :: l17 :: l18 :: l19 :: .val (.int x) :: L) S k n H Q ↔ W (pj lw) 100 827 (l0 :: l1 :: l2 :: l3 :: l4 :: l5 :: l6 :: l7 :: l8 :: l9 :: l10 :: l11 :: l12 :: l13 :: l14 :: l15 :: l16 :: l17 :: l18 :: l19 :: .val (.int x) :: L) (.int x :: S) k n H Q := W_s (rfl : (pj lw).1 100 825 = some (.iload 20, 2, 0)) rfl rfl rfl
theorem w100_827 {x : Int32} {l0 : Slot} : W (pj lw) 100 827 (l0 :: .val (.int x) :: L) S k n H Q ↔ W (pj lw) 100 828 (l0 :: .val (.int x) :: L) (.int x :: S) k n H Q := W_s (rfl : (pj lw).1 100 827 = some (.iload_n 1, 1, 0)) rfl rfl rfl
theorem w100_828 {x y : Int32} : W (pj lw) 100 828 L (.int y :: .int x :: S) k n H Q ↔ (if x < y then W (pj lw) 100 831 L S k n H Q else W (pj lw) 100 845 L S k n H Q) := W_icmp_ge (rfl : (pj lw).1 100 828 = some (.if_icmp .ge 17, 3, 0)) rfl
theorem w100_831 {x : Int64} {l0 l1 l2 l3 l4 l5 l6 l7 l8 l9 l10 l11 l12 l13 l14 l15 : Slot} : W (pj lw) 100 831 (l0 :: l1 :: l2 :: l3 :: l4 :: l5 :: l6 :: l7 :: l8 :: l9 :: l10 :: l11 :: l12 :: l13 :: l14 :: l15 :: .val (.long x) :: L) S k n H Q ↔ W (pj lw) 100 833 (l0 :: l1 :: l2 :: l3 :: l4 :: l5 :: l6 :: l7 :: l8 :: l9 :: l10 :: l11 :: l12 :: l13 :: l14 :: l15 :: .val (.long x) :: L) (.long x :: S) k n H Q := W_s (rfl : (pj lw).1 100 831 = some (.lload 16, 2, 0)) rfl rfl rfl
theorem w100_833 {x : Int32} {l0 l1 l2 l3 l4 l5 l6 l7 l8 l9 l10 l11 l12 l13 l14 l15 l16 l17 l18 l19 : Slot} : W (pj lw) 100 833 (l0 :: l1 :: l2 :: l3 :: l4 :: l5 :: l6 :: l7 :: l8 :: l9 :: l10 :: l11 :: l12 :: l13 :: l14 :: l15 :: l16 :: l17 :: l18 :: l19 :: .val (.int x) :: L) S k n H Q ↔ W (pj lw) 100 835 (l0 :: l1 :: l2 :: l3 :: l4 :: l5 :: l6 :: l7 :: l8 :: l9 :: l10 :: l11 :: l12 :: l13 :: l14 :: l15 :: l16 :: l17 :: l18 :: l19 :: .val (.int x) :: L) (.int x :: S) k n H Q := W_s (rfl : (pj lw).1 100 833 = some (.iload 20, 2, 0)) rfl rfl rfl
theorem w100_835 {x : Int64} {y : Int32} : W (pj lw) 100 835 L (.int y :: .long x :: S) k n H Q ↔ W (pj lw) 100 836 L (.long (Jvm.Free.XT.ushrL x y) :: S) k n H Q := W_s (rfl : (pj lw).1 100 835 = some (.lushr, 1, 0)) rfl rfl rfl
theorem w100_836 : W (pj lw) 100 836 L S k n H Q ↔ W (pj lw) 100 837 L (.long 1 :: S) k n H Q := W_s (rfl : (pj lw).1 100 836 = some (.lconst 1, 1, 0)) rfl rfl rfl
theorem w100_837 {x y : Int64} : W (pj lw) 100 837 L (.long y :: .long x :: S) k n H Q ↔ W (pj lw) 100 838 L (.long (x &&& y) :: S) k n H Q := W_s (rfl : (pj lw).1 100 837 = some (.land, 1, 0)) rfl rfl rfl
theorem w100_838 : W (pj lw) 100 838 L S k n H Q ↔ W (pj lw) 100 839 L (.long 0 :: S) k n H Q := W_s (rfl : (pj lw).1 100 838 = some (.lconst 0, 1, 0)) rfl rfl rfl
theorem w100_839 {x y : Int64} : W (pj lw) 100 839 L (.long y :: .long x :: S) k n H Q ↔ W (pj lw) 100 840 L (.int (Jvm.Free.XT.cmpL x y) :: S) k n H Q := W_s (rfl : (pj lw).1 100 839 = some (.lcmp, 1, 0)) rfl rfl rfl
theorem w100_840 {x : Int32} : W (pj lw) 100 840 L (.int x :: S) k n H Q ↔ (if x = 0 then W (pj lw) 100 845 L S k n H Q else W (pj lw) 100 843 L S k n H Q) := W_if_eq (rfl : (pj lw).1 100 840 = some (.ifCond .eq 5, 3, 0)) rfl
theorem w100_845 {x : Int32} {l0 l1 l2 l3 l4 l5 l6 l7 l8 l9 l10 l11 l12 l13 l14 l15 l16 l17 l18 : Slot} : W (pj lw) 100 845 (l0 :: l1 :: l2 :: l3 :: l4 :: l5 :: l6 :: l7 :: l8 :: l9 :: l10 :: l11 :: l12 :: l13 :: l14 :: l15 :: l16 :: l17 :: l18 :: .val (.int x) :: L) S k n H Q ↔ W (pj lw) 100 848 (l0 :: l1 :: l2 :: l3 :: l4 :: l5 :: l6 :: l7 :: l8 :: l9 :: l10 :: l11 :: l12 :: l13 :: l14 :: l15 :: l16 :: l17 :: l18 :: .val (.int (x + 1)) :: L) S k n H Q := W_s (rfl : (pj lw).1 100 845 = some (.iinc 19 1, 3, 0)) rfl rfl rfl
theorem w100_848 : W (pj lw) 100 848 L S k n H Q ↔ W (pj lw) 100 771 L S k n H Q := W_goto (rfl : (pj lw).1 100 848 = some (.goto (-77), 3, 0)) rfl
theorem w100_851 {x : Int32} {l0 l1 l2 l3 l4 l5 l6 l7 l8 : Slot} : W (pj lw) 100 851 (l0 :: l1 :: l2 :: l3 :: l4 :: l5 :: l6 :: l7 :: l8 :: .val (.int x) :: L) S k n H Q ↔ W (pj lw) 100 854 (l0 :: l1 :: l2 :: l3 :: l4 :: l5 :: l6 :: l7 :: l8 :: .val (.int (x + 3)) :: L) S k n H Q := W_s (rfl : (pj lw).1 100 851 = some (.iinc 9 3, 3, 0)) rfl rfl rfl
theorem w100_854 : W (pj lw) 100 854 L S k n H Q ↔ W (pj lw) 100 96 L S k n H Q := W_goto (rfl : (pj lw).1 100 854 = some (.goto (-758), 3, 0)) rfl
theorem w100_857 : W (pj lw) 100 857 L S k n H Q ↔ W (pj lw) 100 858 L (.int 1 :: S) k n H Q := W_s (rfl : (pj lw).1 100 857 = some (.iconst 1, 1, 0)) rfl rfl rfl
theorem w100_858 {x : Int32} : W (pj lw) 100 858 L (.int x :: S) k n H Q ↔ ((x = 0 ∨ x = 1) ∧ Q (some (.int x)) H) := W_rz (rfl : (pj lw).1 100 858 = some (.ireturn, 1, 0)) rfl
theorem c102 {x0 : Nat} {x1 : Int32} : Cl (pj lw) 102 [.ref x0, .int x1] H Q ↔ W (pj lw) 102 0 [.val (.ref x0), .val (.int x1)] [] 0 0 H Q := cl_unf rfl
theorem w102_0 {x : Int32} {l0 : Slot} : W (pj lw) 102 0 (l0 :: .val (.int x) :: L) S k n H Q ↔ W (pj lw) 102 1 (l0 :: .val (.int x) :: L) (.int x :: S) k n H Q := W_s (rfl : (pj lw).1 102 0 = some (.iload_n 1, 1, 0)) rfl rfl rfl
theorem w102_1 {x : Nat} : W (pj lw) 102 1 (.val (.ref x) :: L) S k n H Q ↔ W (pj lw) 102 2 (.val (.ref x) :: L) (.ref x :: S) k n H Q := W_s (rfl : (pj lw).1 102 1 = some (.aload_n 0, 1, 0)) rfl rfl rfl
theorem w102_2 {a : Nat} : W (pj lw) 102 2 L (.ref a :: S) k n H Q ↔ (isA H a = true ∧ W (pj lw) 102 3 L (.int (alen H a).toInt32 :: S) k n H Q) := W_alen (rfl : (pj lw).1 102 2 = some (.arraylength, 1, 0))
theorem w102_3 {x y : Int32} : W (pj lw) 102 3 L (.int y :: .int x :: S) k n H Q ↔ (if x < y then W (pj lw) 102 6 L S k n H Q else W (pj lw) 102 12 L S k n H Q) := W_icmp_ge (rfl : (pj lw).1 102 3 = some (.if_icmp .ge 9, 3, 0)) rfl
theorem w102_6 {x : Nat} : W (pj lw) 102 6 (.val (.ref x) :: L) S k n H Q ↔ W (pj lw) 102 7 (.val (.ref x) :: L) (.ref x :: S) k n H Q := W_s (rfl : (pj lw).1 102 6 = some (.aload_n 0, 1, 0)) rfl rfl rfl
theorem w102_7 {x : Int32} {l0 : Slot} : W (pj lw) 102 7 (l0 :: .val (.int x) :: L) S k n H Q ↔ W (pj lw) 102 8 (l0 :: .val (.int x) :: L) (.int x :: S) k n H Q := W_s (rfl : (pj lw).1 102 7 = some (.iload_n 1, 1, 0)) rfl rfl rfl
theorem w102_8 {i : Int32} {a : Nat} : W (pj lw) 102 8 L (.int i :: .ref a :: S) k n H Q ↔ (inA H a .int i = true ∧ W (pj lw) 102 9 L (elt H a i :: S) k n H Q) := W_iaload (rfl : (pj lw).1 102 8 = some (.iaload, 1, 0))
theorem w102_9 : W (pj lw) 102 9 L S k n H Q ↔ W (pj lw) 102 13 L S k n H Q := W_goto (rfl : (pj lw).1 102 9 = some (.goto 4, 3, 0)) rfl
theorem w102_12 : W (pj lw) 102 12 L S k n H Q ↔ W (pj lw) 102 13 L (.int 0 :: S) k n H Q := W_s (rfl : (pj lw).1 102 12 = some (.iconst 0, 1, 0)) rfl rfl rfl
theorem w102_13 {x : Int32} : W (pj lw) 102 13 L (.int x :: S) k n H Q ↔ Q (some (.int x)) H := W_r (rfl : (pj lw).1 102 13 = some (.ireturn, 1, 0)) rfl
theorem c103 {x0 : Int32} {x1 : Int32} : Cl (pj lw) 103 [.int x0, .int x1] H Q ↔ W (pj lw) 103 0 [.val (.int x0), .val (.int x1)] [] 0 0 H Q := cl_unf rfl
theorem w103_0 {x : Int32} : W (pj lw) 103 0 (.val (.int x) :: L) S k n H Q ↔ W (pj lw) 103 1 (.val (.int x) :: L) (.int x :: S) k n H Q := W_s (rfl : (pj lw).1 103 0 = some (.iload_n 0, 1, 0)) rfl rfl rfl
theorem w103_1 : W (pj lw) 103 1 L S k n H Q ↔ W (pj lw) 103 3 L (.int 2147483647 :: S) k n H Q := W_s (rfl : (pj lw).1 103 1 = some (.ldc 7, 2, 2147483647)) rfl rfl rfl
theorem w103_3 {x y : Int32} : W (pj lw) 103 3 L (.int y :: .int x :: S) k n H Q ↔ W (pj lw) 103 4 L (.int (x &&& y) :: S) k n H Q := W_s (rfl : (pj lw).1 103 3 = some (.iand, 1, 0)) rfl rfl rfl
theorem w103_4 {x : Int32} {l0 : Slot} : W (pj lw) 103 4 (l0 :: .val (.int x) :: L) S k n H Q ↔ W (pj lw) 103 5 (l0 :: .val (.int x) :: L) (.int x :: S) k n H Q := W_s (rfl : (pj lw).1 103 4 = some (.iload_n 1, 1, 0)) rfl rfl rfl
theorem w103_5 {x y : Int32} : W (pj lw) 103 5 L (.int y :: .int x :: S) k n H Q ↔ (¬ y = 0 ∧ W (pj lw) 103 6 L (.int (x % y) :: S) k n H Q) := W_irem (rfl : (pj lw).1 103 5 = some (.irem, 1, 0))
theorem w103_6 {x : Int32} : W (pj lw) 103 6 L (.int x :: S) k n H Q ↔ Q (some (.int x)) H := W_r (rfl : (pj lw).1 103 6 = some (.ireturn, 1, 0)) rfl
theorem c104 {x0 : Int32} {x1 : Int32} : Cl (pj lw) 104 [.int x0, .int x1] H Q ↔ W (pj lw) 104 0 [.val (.int x0), .val (.int x1), .unset, .unset] [] 0 0 H Q := cl_unf rfl
theorem w104_0 {x : Int32} : W (pj lw) 104 0 (.val (.int x) :: L) S k n H Q ↔ W (pj lw) 104 1 (.val (.int x) :: L) (.int x :: S) k n H Q := W_s (rfl : (pj lw).1 104 0 = some (.iload_n 0, 1, 0)) rfl rfl rfl
theorem w104_1 {x : Int32} {l0 : Slot} : W (pj lw) 104 1 (l0 :: .val (.int x) :: L) S k n H Q ↔ W (pj lw) 104 2 (l0 :: .val (.int x) :: L) (.int x :: S) k n H Q := W_s (rfl : (pj lw).1 104 1 = some (.iload_n 1, 1, 0)) rfl rfl rfl
theorem w104_2 {x y : Int32} : W (pj lw) 104 2 L (.int y :: .int x :: S) k n H Q ↔ (if x < y then W (pj lw) 104 5 L S k n H Q else W (pj lw) 104 9 L S k n H Q) := W_icmp_ge (rfl : (pj lw).1 104 2 = some (.if_icmp .ge 7, 3, 0)) rfl
theorem w104_5 {x : Int32} : W (pj lw) 104 5 (.val (.int x) :: L) S k n H Q ↔ W (pj lw) 104 6 (.val (.int x) :: L) (.int x :: S) k n H Q := W_s (rfl : (pj lw).1 104 5 = some (.iload_n 0, 1, 0)) rfl rfl rfl
theorem w104_6 : W (pj lw) 104 6 L S k n H Q ↔ W (pj lw) 104 10 L S k n H Q := W_goto (rfl : (pj lw).1 104 6 = some (.goto 4, 3, 0)) rfl
theorem w104_9 {x : Int32} {l0 : Slot} : W (pj lw) 104 9 (l0 :: .val (.int x) :: L) S k n H Q ↔ W (pj lw) 104 10 (l0 :: .val (.int x) :: L) (.int x :: S) k n H Q := W_s (rfl : (pj lw).1 104 9 = some (.iload_n 1, 1, 0)) rfl rfl rfl
theorem w104_10 {x : Int32} {l0 l1 : Slot} : W (pj lw) 104 10 (l0 :: l1 :: .unset :: L) (.int x :: S) k n H Q ↔ W (pj lw) 104 11 (l0 :: l1 :: .val (.int x) :: L) S k n H Q := W_istn (rfl : (pj lw).1 104 10 = some (.istore_n 2, 1, 0)) rfl rfl
theorem w104_11 {x : Int32} : W (pj lw) 104 11 (.val (.int x) :: L) S k n H Q ↔ W (pj lw) 104 12 (.val (.int x) :: L) (.int x :: S) k n H Q := W_s (rfl : (pj lw).1 104 11 = some (.iload_n 0, 1, 0)) rfl rfl rfl
theorem w104_12 {x : Int32} {l0 : Slot} : W (pj lw) 104 12 (l0 :: .val (.int x) :: L) S k n H Q ↔ W (pj lw) 104 13 (l0 :: .val (.int x) :: L) (.int x :: S) k n H Q := W_s (rfl : (pj lw).1 104 12 = some (.iload_n 1, 1, 0)) rfl rfl rfl
theorem w104_13 {x y : Int32} : W (pj lw) 104 13 L (.int y :: .int x :: S) k n H Q ↔ (if x < y then W (pj lw) 104 16 L S k n H Q else W (pj lw) 104 20 L S k n H Q) := W_icmp_ge (rfl : (pj lw).1 104 13 = some (.if_icmp .ge 7, 3, 0)) rfl
theorem w104_16 {x : Int32} {l0 : Slot} : W (pj lw) 104 16 (l0 :: .val (.int x) :: L) S k n H Q ↔ W (pj lw) 104 17 (l0 :: .val (.int x) :: L) (.int x :: S) k n H Q := W_s (rfl : (pj lw).1 104 16 = some (.iload_n 1, 1, 0)) rfl rfl rfl
theorem w104_17 : W (pj lw) 104 17 L S k n H Q ↔ W (pj lw) 104 21 L S k n H Q := W_goto (rfl : (pj lw).1 104 17 = some (.goto 4, 3, 0)) rfl
theorem w104_20 {x : Int32} : W (pj lw) 104 20 (.val (.int x) :: L) S k n H Q ↔ W (pj lw) 104 21 (.val (.int x) :: L) (.int x :: S) k n H Q := W_s (rfl : (pj lw).1 104 20 = some (.iload_n 0, 1, 0)) rfl rfl rfl
theorem w104_21 {x : Int32} {l0 l1 l2 : Slot} : W (pj lw) 104 21 (l0 :: l1 :: l2 :: .unset :: L) (.int x :: S) k n H Q ↔ W (pj lw) 104 22 (l0 :: l1 :: l2 :: .val (.int x) :: L) S k n H Q := W_istn (rfl : (pj lw).1 104 21 = some (.istore_n 3, 1, 0)) rfl rfl
theorem w104_22 {x : Int32} {l0 l1 : Slot} : W (pj lw) 104 22 (l0 :: l1 :: .val (.int x) :: L) S k n H Q ↔ W (pj lw) 104 23 (l0 :: l1 :: .val (.int x) :: L) (.int x :: S) k n H Q := W_s (rfl : (pj lw).1 104 22 = some (.iload_n 2, 1, 0)) rfl rfl rfl
theorem w104_23 : W (pj lw) 104 23 L S k n H Q ↔ W (pj lw) 104 25 L (.int 8 :: S) k n H Q := W_s (rfl : (pj lw).1 104 23 = some (.bipush 8, 2, 0)) rfl rfl rfl
theorem w104_25 {x y : Int32} : W (pj lw) 104 25 L (.int y :: .int x :: S) k n H Q ↔ W (pj lw) 104 26 L (.int (x * y) :: S) k n H Q := W_s (rfl : (pj lw).1 104 25 = some (.imul, 1, 0)) rfl rfl rfl
theorem w104_26 {x : Int32} {l0 l1 l2 : Slot} : W (pj lw) 104 26 (l0 :: l1 :: l2 :: .val (.int x) :: L) S k n H Q ↔ W (pj lw) 104 27 (l0 :: l1 :: l2 :: .val (.int x) :: L) (.int x :: S) k n H Q := W_s (rfl : (pj lw).1 104 26 = some (.iload_n 3, 1, 0)) rfl rfl rfl
theorem w104_27 {x y : Int32} : W (pj lw) 104 27 L (.int y :: .int x :: S) k n H Q ↔ W (pj lw) 104 28 L (.int (x + y) :: S) k n H Q := W_s (rfl : (pj lw).1 104 27 = some (.iadd, 1, 0)) rfl rfl rfl
theorem w104_28 {x : Int32} : W (pj lw) 104 28 L (.int x :: S) k n H Q ↔ Q (some (.int x)) H := W_r (rfl : (pj lw).1 104 28 = some (.ireturn, 1, 0)) rfl
end LPc
section X2
variable {H : AH} {p q : Nat} {s s' : St} {Q : Option Value → AH → Prop} {k n : Nat} {B : Int} {a len : Nat} {f : Nat → Int32} {x y u v w : Int32}
def cel (f : Nat → Int32) (len : Nat) (k : Int32) : Int32 := if k < len.toInt32 then f k.toNatClampNeg else 0
theorem s102 (y1 : (isA H a = true) = True) (y2 : alen H a = len) (y3 : ∀ i, (inA H a .int i = true) = (0 ≤ i.toInt ∧ i.toInt < len)) (y4 : ∀ i, elt H a i = .int (f i.toNatClampNeg)) (hl : len ≤ 260) (h0 : 0 ≤ x.toInt) :
    Cl (pj lw) 102 [.ref a, .int x] H Q ↔ Q (some (.int (cel f len x))) H := by
  have hlen : (len.toInt32).toInt = len := len32 (by omega)
  rw [c102]; unfold cel
  by_cases g : x < len.toInt32
  · have j0 : 0 ≤ x.toInt ∧ x.toInt < (len : Int) := by rw [lt32] at g; omega
    simp +decide only [w102_0, w102_1, w102_2, w102_3, w102_6, w102_7, w102_8, w102_9, w102_13, true_and, and_true, ↓reduceIte, y1, y2, y3, y4, g, j0]
  · simp +decide only [w102_0, w102_1, w102_2, w102_3, w102_12, w102_13, true_and, ↓reduceIte, y1, y2, g]
def nz (v m : Int32) : Int32 := (v &&& 2147483647) % m
theorem s103 (hm : (y = 0) = False) : Cl (pj lw) 103 [.int x, .int y] H Q ↔ Q (some (.int (nz x y))) H := by
  rw [c103]; simp +decide only [w103_0, w103_1, w103_3, w103_4, w103_5, w103_6, true_and, not_false_eq_true, hm, nz]
theorem nz_rg (h : 0 < y.toInt) : 0 ≤ (nz x y).toInt ∧ (nz x y).toInt < y.toInt := rem_rg (and_rg (m := 2147483647) (by decide)).1 h
def bt (u v : Int32) : Int32 := if u < v then u * 8 + v else v * 8 + u
theorem s104 : Cl (pj lw) 104 [.int u, .int v] H Q ↔ Q (some (.int (bt u v))) H := by
  rw [c104]; unfold bt
  by_cases g : u < v <;> simp +decide only [w104_0, w104_1, w104_2, w104_5, w104_6, w104_9, w104_10, w104_11, w104_12, w104_13, w104_16, w104_17, w104_20, w104_21, w104_22, w104_23, w104_25, w104_26, w104_27, w104_28, ↓reduceIte, g]
theorem bt_n (hu : 0 ≤ u.toInt ∧ u.toInt < 8) (hv : 0 ≤ v.toInt ∧ v.toInt < 8) : (0 ≤ (bt u v).toInt ∧ (bt u v).toInt < 64) ∧ (bt u v).toInt.toNat = if u.toNatClampNeg < v.toNatClampNeg then u.toNatClampNeg * 8 + v.toNatClampNeg else v.toNatClampNeg * 8 + u.toNatClampNeg := by
  have kuv : ∀ a b : Int32, (0 ≤ a.toInt ∧ a.toInt < 8) → (0 ≤ b.toInt ∧ b.toInt < 8) → (a * 8 + b).toInt = a.toInt * 8 + b.toInt := fun a b h1 h2 => by
    have e : (a * 8).toInt = a.toInt * 8 := im (by simp only [Int32.reduceToInt]; omega) (by simp only [Int32.reduceToInt]; omega)
    rw [ia (by rw [e]; omega) (by rw [e]; omega), e]
  unfold bt
  by_cases g : u < v
  · have g' := lt32.mp g
    rw [if_pos g, if_pos (by rw [cln, cln]; omega), kuv u v hu hv, cln, cln]; omega
  · have g' := g; rw [lt32] at g'
    rw [if_neg g, if_neg (by rw [cln, cln]; omega), kuv v u hv hu, cln, cln]; omega
theorem adj_comm {i j : Nat} : adj s i j ↔ adj s j i := ⟨fun ⟨e, h1, h2⟩ => ⟨e, h1, h2.symm⟩, fun ⟨e, h1, h2⟩ => ⟨e, h1, h2.symm⟩⟩
def PB (s : St) (P : Int64) : Prop := ∀ u v, u < v → v < 8 → (P.toBitVec.getLsbD (u * 8 + v) = true ↔ adj s u v)
theorem PB.of {P : Int64} (h : PB s P) (h18 : sI s' 18 = sI s 18) (h12 : ∀ i, sA s' 12 i = sA s 12 i) (h13 : ∀ i, sA s' 13 i = sA s 13 i) : PB s' P := fun u v a b =>
  (h u v a b).trans ⟨adj_of h18 h12 h13 u v, adj_of h18.symm (fun i => (h12 i).symm) (fun i => (h13 i).symm) u v⟩
theorem PB_bt {P : Int64} (h : PB s P) (hu : 0 ≤ u.toInt ∧ u.toInt < 8) (hv : 0 ≤ v.toInt ∧ v.toInt < 8) (hne : ¬ u = v) : (Jvm.Free.XT.ushrL P (bt u v) &&& 1 = 0) = ¬ adj s u.toNatClampNeg v.toNatClampNeg := by
  obtain ⟨b1, b2⟩ := bt_n hu hv
  have hne' : u.toNatClampNeg ≠ v.toNatClampNeg := fun g => hne (by rw [eq32]; rw [cln, cln] at g; omega)
  rw [and1 b1, b2]
  by_cases g : u.toNatClampNeg < v.toNatClampNeg
  · rw [if_pos g, ← h _ _ g (by rw [cln]; omega)]; simp
  · rw [if_neg g, adj_comm, ← h _ _ (by omega) (by rw [cln]; omega)]; simp
theorem PB_new {P : Int64} (h : PB s P) (hu : 0 ≤ u.toInt ∧ u.toInt < 8) (hv : 0 ≤ v.toInt ∧ v.toInt < 8) (hne : ¬ u = v) (h18 : 0 ≤ (sI s 18).toInt ∧ (sI s 18).toInt < 256) : PB (aeS s u v w) (P ||| ((1 : Int64) <<< ((bt u v).toInt64 &&& 63))) := by
  obtain ⟨b1, b2⟩ := bt_n hu hv
  have hne' : u.toNatClampNeg ≠ v.toNatClampNeg := fun g => hne (by rw [eq32]; rw [cln, cln] at g; omega)
  have r1 : u.toNatClampNeg < 8 ∧ v.toNatClampNeg < 8 := by rw [cln, cln]; omega
  intro a b hab hb
  rw [bit_or _ b1, b2, ae_adj h18, ← h a b hab hb]
  simp only [Bool.or_eq_true, decide_eq_true_eq]
  refine or_congr_right ?_
  split
  · constructor
    · intro g; exact Or.inl (by omega)
    · intro g; omega
  · constructor
    · intro g; exact Or.inr (by omega)
    · intro g; omega
def Fp (s : St) (nc : Int64) (i : Int) : Prop := ∀ j : Int32, 0 ≤ j.toInt → j.toInt < 8 → (j.toInt < i → G2 nc j = (sA s 1 j.toNatClampNeg).toInt64) ∧ (i ≤ j.toInt → G2 nc j = 0)
def Cm (s : St) (P : Int64) : Prop := ∀ j : Int32, 0 ≤ j.toInt → j < sI s 0 → ¬ sA s 1 j.toNatClampNeg < (G2 P j).toInt32
theorem Fp_step {nc : Int64} {i : Int32} (h : Fp s nc i.toInt) (hi : 0 ≤ i.toInt ∧ i.toInt < 8) (hc : sA s 1 i.toNatClampNeg = 0 ∨ sA s 1 i.toNatClampNeg = 1 ∨ sA s 1 i.toNatClampNeg = 2 ∨ sA s 1 i.toNatClampNeg = 3) : Fp s (nc ||| ((sA s 1 i.toNatClampNeg).toInt64 <<< ((2 * i).toInt64 &&& 63))) (i.toInt + 1) := by
  intro j j0 j8
  rw [G2_or, G2_c hc hi ⟨j0, j8⟩]
  by_cases g : i = j
  · subst g
    rw [if_pos rfl, (h i j0 j8).2 (by omega), or0.2]
    exact ⟨fun _ => rfl, fun z => absurd z (by omega)⟩
  · have g' : i.toInt ≠ j.toInt := fun z => g (by rw [eq32]; exact z)
    rw [if_neg g, or0.1]
    exact ⟨fun z => (h j j0 j8).1 (by omega), fun z => (h j j0 j8).2 (by omega)⟩
theorem o32 {n : Nat} (h : n ≤ 1000) : (Int32.ofNat n).toInt = n := Int32.toInt_ofNat_of_lt (by omega)
theorem lc {l3 l4 l5 l6 l7 l8 l9 l10 l11 l12 l14 l15 l16 l17 l18 : Slot} {i nn : Int32} (hI : Iv s) (hn : sI s 0 = nn) (m : Nat) : ∀ (j c : Int32), j.toInt = nn.toInt - m → 0 ≤ j.toInt →
    (W (pj lw) 100 465 [.val (.ref a), .val (.int nn), .val (.ref p), l3, l4, l5, l6, l7, l8, l9, l10, l11, l12, .val (.int i), l14, l15, l16, l17, l18, .val (.int c), .val (.int j)] [] k n (ob H p s) Q ↔
     W (pj lw) 100 491 [.val (.ref a), .val (.int nn), .val (.ref p), l3, l4, l5, l6, l7, l8, l9, l10, l11, l12, .val (.int i), l14, l15, l16, l17, l18, .val (.int (c + Int32.ofNat (cnt (fun y => decide (sA s 6 y = i)) j.toNatClampNeg m))), .val (.int nn)] [] k n (ob H p s) Q) := by
  have hb := (Iv_b hI).2
  induction m with
  | zero =>
    intro j c hj h0
    have h1 : ¬ j < nn := by rw [lt32]; omega
    have h2 : j = nn := by rw [eq32]; omega
    subst h2
    rw [w100_465]; simp +decide only [w100_467, w100_468, ↓reduceIte, h1, cnt, add_ofNat_zero]
  | succ m ih =>
    intro j c hj h0
    have h1 : j < nn := by rw [lt32]; omega
    have n0 : ¬ j < 0 := by rw [lt32]; simp only [Int32.reduceToInt]; omega
    have := rg32 nn
    have h2 : (j + 1).toInt = j.toInt + 1 := ia (by simp only [Int32.reduceToInt]; omega) (by simp only [Int32.reduceToInt]; omega)
    have h4 : (j + 1).toNatClampNeg = j.toNatClampNeg + 1 := by rw [cln, cln]; omega
    have A12 := fun (Q : Option Value → AH → Prop) => t12 (lw := lw) (H := H) (p := p) (Q := Q) (a := j) hb
    have g : gt s 6 (-2) j = sA s 6 j.toNatClampNeg := by unfold gt; rw [hn, if_pos ⟨n0, h1⟩]
    rw [g] at A12
    rw [w100_465]
    rcases Classical.propComplete (sA s 6 j.toNatClampNeg = i) with e | e
    · simp +decide only [w100_467, w100_468, w100_471, w100_472, w100_474, w100_477, w100_479, w100_482, w100_485, w100_488, isO_put, Option.toList_some, List.cons_append, List.nil_append, true_and, and_true, ↓reduceIte, h1, A12, e]
      rw [ih (j + 1) (c + 1) (by omega) (by omega), h4, ofNat_one_add]
      simp only [cnt, e, decide_true, if_true]
    · simp +decide only [w100_467, w100_468, w100_471, w100_472, w100_474, w100_477, w100_479, w100_485, w100_488, isO_put, Option.toList_some, List.cons_append, List.nil_append, true_and, and_true, ↓reduceIte, h1, A12, e]
      rw [ih (j + 1) c (by omega) (by omega), h4]
      simp +decide only [cnt, e, decide_false, Bool.false_eq_true, if_false, Nat.zero_add]
set_option maxRecDepth 100000 in
set_option maxHeartbeats 4000000 in
theorem st1 {nn ec kk sm i : Int32} {E P nc : Int64} {l16 l17 : Slot} (hK : K s B) (hn : sI s 0 = nn) (n8 : 2 ≤ nn.toInt ∧ nn.toInt ≤ 8) (hE : PB s E) (hP : Cm s P) (hi : 0 ≤ i.toInt) (hlt : i < nn) (h1617 : (l16 = .unset ∧ l17 = .unset) ∨ ∃ w, l16 = .val (.long w) ∧ l17 = .second)
    (hW : W (pj lw) 100 183 [.val (.ref a), .val (.int nn), .val (.ref p), .val (.long E), .second, .val (.int ec), .val (.long P), .second, .val (.int (sI s 22)), .val (.int kk), .val (.int sm), .val (.long (nc ||| ((sA s 1 i.toNatClampNeg).toInt64 <<< ((2 * i).toInt64 &&& 63)))), .second, .val (.int (i + 1)), .unset, .unset, .unset, .unset, .unset, .unset, .unset] [] k n (ob H p s) Q) :
    W (pj lw) 100 183 [.val (.ref a), .val (.int nn), .val (.ref p), .val (.long E), .second, .val (.int ec), .val (.long P), .second, .val (.int (sI s 22)), .val (.int kk), .val (.int sm), .val (.long nc), .second, .val (.int i), .unset, .unset, l16, l17, .unset, .unset, .unset] [] k n (ob H p s) Q := by
  have hI := hK.1.1
  have hb := (Iv_b hI).2
  have hm := Iv_b hI
  have n0 : ¬ i < 0 := by rw [lt32]; simp only [Int32.reduceToInt]; omega
  have hlt' := lt32.mp hlt
  have hnN : i.toNatClampNeg < nN s := by unfold nN; rw [hn, cln]; omega
  have Gi : ∀ t z, gt s t z i = sA s t i.toNatClampNeg := fun t z => by unfold gt; rw [hn, if_pos ⟨n0, hlt⟩]
  have A8 := fun (Q : Option Value → AH → Prop) => t8 (lw := lw) (H := H) (p := p) (Q := Q) (a := i) hb
  have A12 := fun (Q : Option Value → AH → Prop) => t12 (lw := lw) (H := H) (p := p) (Q := Q) (a := i) hb
  have A13 := fun (Q : Option Value → AH → Prop) => t13 (lw := lw) (H := H) (p := p) (Q := Q) (a := i) hb
  have A14 := fun (Q : Option Value → AH → Prop) => t14 (lw := lw) (H := H) (p := p) (Q := Q) (a := i) hb
  have A15 := fun (Q : Option Value → AH → Prop) => t15 (lw := lw) (H := H) (p := p) (Q := Q) (e := i) hm
  rw [hn, if_pos ⟨n0, hlt⟩] at A15
  simp only [Gi] at A8 A12 A13 A14
  have pk := hK.2.1 _ hnN
  have cl0 : ¬ sA s 1 i.toNatClampNeg < 0 := by rcases pk.c4 with e | e | e | e <;> rw [e] <;> decide
  have cl3' : ¬ 3 < sA s 1 i.toNatClampNeg := by rcases pk.c4 with e | e | e | e <;> rw [e] <;> decide
  have cP : ¬ sA s 1 i.toNatClampNeg < (Jvm.Free.XT.ushrL P (2 * i) &&& 3).toInt32 := hP i hi (by rw [hn]; exact hlt)
  generalize hnc : nc ||| ((sA s 1 i.toNatClampNeg).toInt64 <<< ((2 * i).toInt64 &&& 63)) = nc' at hW
  generalize hFP : (Jvm.Free.XT.ushrL P (2 * i) &&& 3).toInt32 = fp at cP
  have tail : W (pj lw) 100 465 [.val (.ref a), .val (.int nn), .val (.ref p), .val (.long E), .second, .val (.int ec), .val (.long P), .second, .val (.int (sI s 22)), .val (.int kk), .val (.int sm), .val (.long nc'), .second, .val (.int i), .val (.int (sA s 1 i.toNatClampNeg)), .val (.int fp), .val (.int (sA s 6 i.toNatClampNeg)), .val (.int (sA s 8 i.toNatClampNeg)), .val (.int (sA s 7 i.toNatClampNeg)), .val (.int 0), .val (.int 0)] [] k n (ob H p s) Q := by
    rw [lc hI hn nn.toInt.toNat 0 0 (by simp only [Int32.reduceToInt]; omega) (by decide)]
    simp +decide only [w100_491, w100_492, w100_494, w100_497, w100_499, w100_504, w100_507, isO_put, Option.toList_some, List.cons_append, List.nil_append, true_and, and_true, ↓reduceIte, Int32.reduceToNatClampNeg, Nat.zero_add, A15, Int32.zero_add]
    exact W_fg (by repeat (first | exact lel_refl | apply lel_cons | apply lel_un rfl)) hW
  have main : W (pj lw) 100 270 [.val (.ref a), .val (.int nn), .val (.ref p), .val (.long E), .second, .val (.int ec), .val (.long P), .second, .val (.int (sI s 22)), .val (.int kk), .val (.int sm), .val (.long nc'), .second, .val (.int i), .val (.int (sA s 1 i.toNatClampNeg)), .val (.int fp), .val (.int (sA s 6 i.toNatClampNeg)), .val (.int (sA s 8 i.toNatClampNeg)), .val (.int (sA s 7 i.toNatClampNeg)), .unset, .unset] [] k n (ob H p s) Q := by
    rcases pk with ⟨y1, y2, y3, y4, y5, y6⟩ | ⟨y1, y2, y3, y4⟩
    · rw [y1, y3, y4, y5] at tail ⊢
      simp +decide only [w100_270, w100_272, w100_274, w100_277, w100_278, w100_282, w100_284, w100_287, w100_288, w100_292, w100_297, w100_299, w100_300, w100_307, w100_308, w100_310, w100_317, w100_318, w100_323, w100_325, w100_327, w100_330, w100_332, w100_333, w100_336, w100_338, w100_339, w100_459, w100_460, w100_462, w100_463, ↓reduceIte]
      exact tail
    · have D1 : ¬ sA s 7 i.toNatClampNeg < 0 := by rw [lt32]; simp only [Int32.reduceToInt]; omega
      have D2 : ¬ sI s 22 < sA s 7 i.toNatClampNeg := by rw [lt32]; omega
      have c0 : ¬ sA s 1 i.toNatClampNeg = 0 := by rcases y1 with z | z | z <;> rw [z.1] <;> decide
      rcases y4 with ⟨s6, s8⟩ | ⟨r1, r2, r3, r4, r5, r6, r7⟩
      · rw [s6, s8] at tail ⊢
        simp +decide only [w100_270, w100_272, w100_274, w100_281, w100_282, w100_284, w100_291, w100_292, w100_297, w100_299, w100_300, w100_303, w100_304, w100_308, w100_310, w100_313, w100_314, w100_318, w100_323, w100_325, w100_327, w100_344, w100_346, w100_347, w100_350, w100_352, w100_355, w100_357, w100_359, w100_459, w100_460, w100_462, w100_463, ↓reduceIte, c0, D1, D2]
        exact tail
      · rw [hn] at r1
        have S1 := i32_2 r1.1
        have S2 : ¬ sA s 6 i.toNatClampNeg < 0 := by rw [lt32]; simp only [Int32.reduceToInt]; omega
        have S3 : sA s 6 i.toNatClampNeg < nn := by rw [lt32]; omega
        have S4 : ¬ sA s 6 i.toNatClampNeg = i := fun g => r2 (by rw [g])
        have S4' : ¬ i = sA s 6 i.toNatClampNeg := fun g => S4 g.symm
        have Gs : ∀ t z, gt s t z (sA s 6 i.toNatClampNeg) = sA s t (sA s 6 i.toNatClampNeg).toNatClampNeg := fun t z => by unfold gt; rw [hn, if_pos ⟨S2, S3⟩]
        have S8 : ¬ sA s 8 i.toNatClampNeg = 0 := fun g => by rw [g] at r4; simp only [Int32.reduceToInt] at r4; omega
        have := rg32 (sA s 8 i.toNatClampNeg)
        have S9 : sA s 8 i.toNatClampNeg = sA s 8 (sA s 6 i.toNatClampNeg).toNatClampNeg + 1 := by
          rw [eq32, ia (by simp only [Int32.reduceToInt]; omega) (by simp only [Int32.reduceToInt]; omega)]; exact r4
        have S5 : sA s 7 (sA s 6 i.toNatClampNeg).toNatClampNeg < sA s 7 i.toNatClampNeg := by rw [lt32]; exact r6
        have S6 : (Jvm.Free.XT.ushrL E (bt i (sA s 6 i.toNatClampNeg)) &&& 1 = 0) = False := by
          exact eq_false (fun g => by rw [PB_bt hE (by omega) (by omega) S4'] at g; exact g r7)
        have B8 := fun (Q : Option Value → AH → Prop) => t8 (lw := lw) (H := H) (p := p) (Q := Q) (a := sA s 6 i.toNatClampNeg) hb
        have B13 := fun (Q : Option Value → AH → Prop) => t13 (lw := lw) (H := H) (p := p) (Q := Q) (a := sA s 6 i.toNatClampNeg) hb
        have B14 := fun (Q : Option Value → AH → Prop) => t14 (lw := lw) (H := H) (p := p) (Q := Q) (a := sA s 6 i.toNatClampNeg) hb
        simp only [Gs] at B8 B13 B14
        have S9' := S9.symm
        rcases r3 with r3 | r3
        · simp +decide only [w100_270, w100_272, w100_274, w100_281, w100_282, w100_284, w100_291, w100_292, w100_297, w100_299, w100_300, w100_307, w100_308, w100_310, w100_317, w100_318, w100_323, w100_325, w100_327, w100_344, w100_346, w100_347, w100_364, w100_366, w100_369, w100_371, w100_372, w100_375, w100_377, w100_379, w100_384, w100_385, w100_387, w100_389, w100_392, w100_393, w100_394, w100_395, w100_396, w100_397, w100_402, w100_404, w100_405, w100_407, w100_410, w100_411, w100_412, w100_417, w100_418, w100_420, w100_423, w100_425, w100_428, w100_430, w100_432, w100_437, w100_438, w100_440, w100_443, w100_445, w100_447, w100_448, w100_459, w100_460i, w100_462, w100_463, isO_put, cs_nil, cs_int, cs_long, cmpL_eq, Option.toList_some, List.cons_append, List.nil_append, true_and, and_true, ↓reduceIte, Nat.reduceAdd, Nat.reduceLeDiff, Int32.reduceAdd, Int64.reduceAdd, Nat.add_zero, c0, D2, S1, S2, S3, S4, S5, S6, S8, S9', B8, B13, B14, r3, s104]
          exact tail
        · simp +decide only [w100_270, w100_272, w100_274, w100_281, w100_282, w100_284, w100_291, w100_292, w100_297, w100_299, w100_300, w100_307, w100_308, w100_310, w100_317, w100_318, w100_323, w100_325, w100_327, w100_344, w100_346, w100_347, w100_364, w100_366, w100_369, w100_371, w100_372, w100_375, w100_377, w100_379, w100_384, w100_385, w100_387, w100_389, w100_392, w100_393, w100_394, w100_395, w100_396, w100_397, w100_402, w100_404, w100_405, w100_407, w100_410, w100_411, w100_412, w100_417, w100_418, w100_420, w100_423, w100_425, w100_428, w100_430, w100_432, w100_437, w100_438, w100_440, w100_443, w100_445, w100_447, w100_448, w100_451, w100_453, w100_454, w100_459, w100_460i, w100_462, w100_463, isO_put, cs_nil, cs_int, cs_long, cmpL_eq, Option.toList_some, List.cons_append, List.nil_append, true_and, and_true, ↓reduceIte, Nat.reduceAdd, Nat.reduceLeDiff, Int32.reduceAdd, Int64.reduceAdd, Nat.add_zero, c0, D2, S1, S2, S3, S4, S5, S6, S8, S9', B8, B13, B14, r3, s104]
          exact tail
  rcases h1617 with ⟨rfl, rfl⟩ | ⟨w, rfl, rfl⟩ <;>
  · rw [w100_183]
    simp +decide only [w100_185, w100_186, w100_189, w100_190, w100_192, w100_195, w100_197, w100_199, w100_202, w100_204, w100_205, w100_210, w100_212, w100_213, w100_215, w100_216, w100_217, w100_220, w100_221, w100_222, w100_224, w100_226, w100_228, w100_233, w100_235, w100_237, w100_238, w100_239, w100_241, w100_242, w100_243, w100_244j, w100_246, w100_247, w100_249, w100_252j, w100_252, w100_254, w100_255, w100_257, w100_260, w100_262, w100_263, w100_265, w100_268, isO_put, Option.toList_some, List.cons_append, List.nil_append, true_and, and_true, ↓reduceIte, hlt, A8, A12, A13, A14, cl0, cl3', hFP, cP, hnc]
    exact main
theorem li {nn ec kk sm : Int32} {E P : Int64} (hK : K s B) (hn : sI s 0 = nn) (n8 : 2 ≤ nn.toInt ∧ nn.toInt ≤ 8) (hE : PB s E) (hP : Cm s P)
    (hW : ∀ nc, Fp s nc nn.toInt → W (pj lw) 100 510 [.val (.ref a), .val (.int nn), .val (.ref p), .val (.long E), .second, .val (.int ec), .val (.long P), .second, .val (.int (sI s 22)), .val (.int kk), .val (.int sm), .val (.long nc), .second, .val (.int nn), .unset, .unset, .unset, .unset, .unset, .unset, .unset] [] k n (ob H p s) Q) (m : Nat) : ∀ (i : Int32) (nc : Int64), i.toInt = nn.toInt - m → 0 ≤ i.toInt → Fp s nc i.toInt →
    W (pj lw) 100 183 [.val (.ref a), .val (.int nn), .val (.ref p), .val (.long E), .second, .val (.int ec), .val (.long P), .second, .val (.int (sI s 22)), .val (.int kk), .val (.int sm), .val (.long nc), .second, .val (.int i), .unset, .unset, .unset, .unset, .unset, .unset, .unset] [] k n (ob H p s) Q := by
  induction m with
  | zero =>
    intro i nc hi h0 hF
    have h1 : ¬ i < nn := by rw [lt32]; omega
    have h2 : i = nn := by rw [eq32]; omega
    subst h2
    rw [w100_183]; simp +decide only [w100_185, w100_186, ↓reduceIte, h1]
    exact hW nc hF
  | succ m ih =>
    intro i nc hi h0 hF
    have h1 : i < nn := by rw [lt32]; omega
    have h2 : (i + 1).toInt = i.toInt + 1 := ia (by simp only [Int32.reduceToInt]; omega) (by simp only [Int32.reduceToInt]; omega)
    refine st1 hK hn n8 hE hP h0 h1 (Or.inl ⟨rfl, rfl⟩) (ih (i + 1) _ (by omega) (by omega) ?_)
    rw [h2]
    exact Fp_step hF (by omega) ((hK.2.1 _ (by unfold nN; rw [hn, cln]; omega)).c4)
theorem ushrL_0 {y : Int32} : Jvm.Free.XT.ushrL 0 y = 0 := by
  unfold Jvm.Free.XT.ushrL; apply Int64.toBitVec_inj.mp; simp
theorem Fp_0 : Fp s 0 0 := fun j h0 h8 => ⟨fun g => absurd g (by omega), fun _ => by unfold G2; rw [ushrL_0]; decide⟩
set_option maxRecDepth 100000 in
set_option maxHeartbeats 4000000 in
theorem chk {nn ec kk : Int32} {E P : Int64} {l11 l12 l16 l17 : Slot} (hK : K s B) (hn : sI s 0 = nn) (n8 : 2 ≤ nn.toInt ∧ nn.toInt ≤ 8) (hE : PB s E) (hP : Cm s P) (hec : ec = sI s 18)
    (h1112 : (l11 = .unset ∧ l12 = .unset) ∨ ∃ w, l11 = .val (.long w) ∧ l12 = .second) (h1617 : (l16 = .unset ∧ l17 = .unset) ∨ ∃ w, l16 = .val (.long w) ∧ l17 = .second)
    (hW : ∀ nc sm, Fp s nc nn.toInt → W (pj lw) 100 514 [.val (.ref a), .val (.int nn), .val (.ref p), .val (.long E), .second, .val (.int ec), .val (.long nc), .second, .val (.int (sI s 22)), .val (.int kk), .val (.int sm), .val (.long nc), .second, .val (.int nn), .unset, .unset, .unset, .unset, .unset, .unset, .unset] [] k n (ob H p s) Q) :
    W (pj lw) 100 96 [.val (.ref a), .val (.int nn), .val (.ref p), .val (.long E), .second, .val (.int ec), .val (.long P), .second, .val (.int (sI s 22)), .val (.int kk), .unset, l11, l12, .unset, .unset, .unset, l16, l17, .unset, .unset, .unset] [] k n (ob H p s) Q := by
  have hI := hK.1.1
  have hm := Iv_b hI
  have hn' : (sI s 0).toInt.toNat = nn.toInt.toNat := by rw [hn]
  have J1' := hK.1.2.1
  have hN : nN s = nn.toInt.toNat := hn'
  have c4 := cnt_c4 (f := sA s 1) nn.toInt.toNat 0 (fun i _ hi => by
    rcases J1' i (by omega) with ⟨e, _⟩ | ⟨e | e | e, _⟩ <;> rw [e] <;> decide)
  have ce := cnt_nt (f := fun i => !decide (sA s 6 i = -2)) (g := fun i => decide (sA s 1 i = 0)) nn.toInt.toNat 0 (fun i _ hi => by
    rcases J1' i (by omega) with ⟨e, f⟩ | ⟨e, f⟩
    · simp [e, f]
    · have : ¬ sA s 1 i = 0 := by rcases e with e | e | e <;> rw [e] <;> decide
      simp [this, f])
  have k1 : Int32.ofNat (cnt (fun i => decide (sA s 1 i = 0)) 0 nn.toInt.toNat) + Int32.ofNat (cnt (fun i => decide (sA s 1 i = 1)) 0 nn.toInt.toNat) + Int32.ofNat (cnt (fun i => decide (sA s 1 i = 2)) 0 nn.toInt.toNat) + Int32.ofNat (cnt (fun i => decide (sA s 1 i = 3)) 0 nn.toInt.toNat) = nn := by
    rw [← Int32.ofNat_add, ← Int32.ofNat_add, ← Int32.ofNat_add, c4, eq32, o32 (by omega)]; omega
  have k2 : Int32.ofNat (cnt (fun i => !decide (sA s 6 i = -2)) 0 nn.toInt.toNat) = nn - Int32.ofNat (cnt (fun i => decide (sA s 1 i = 0)) 0 nn.toInt.toNat) := by
    rw [eq32, isb (by rw [o32 (by omega)]; omega) (by rw [o32 (by omega)]; omega), o32 (by omega), o32 (by omega)]; omega
  have go : ∀ sm : Int32, W (pj lw) 100 183 [.val (.ref a), .val (.int nn), .val (.ref p), .val (.long E), .second, .val (.int ec), .val (.long P), .second, .val (.int (sI s 22)), .val (.int kk), .val (.int sm), .val (.long 0), .second, .val (.int 0), .unset, .unset, l16, l17, .unset, .unset, .unset] [] k n (ob H p s) Q := fun sm => by
    refine st1 hK hn n8 hE hP (by decide) (by rw [lt32]; simp only [Int32.reduceToInt]; omega) h1617 (li hK hn n8 hE hP (fun nc hF => ?_) (nn.toInt.toNat - 1) (0 + 1) _ (by rw [Int32.zero_add]; simp only [Int32.reduceToInt]; omega) (by decide) ?_)
    · simp +decide only [w100_510, w100_512j]
      exact hW nc sm hF
    · exact Fp_step (i := 0) Fp_0 (by decide) ((hK.2.1 _ (by rw [hN]; simp only [Int32.reduceToNatClampNeg]; omega)).c4)
  subst hec
  rcases h1112 with ⟨rfl, rfl⟩ | ⟨w, rfl, rfl⟩
  · rw [w100_96]
    simp +decide only [w100_97, w100_99, w100_100, w100_104, w100_105, w100_108, w100_110, w100_111, w100_113, w100_116, w100_117i, w100_119, w100_122, w100_125, w100_127, w100_128, w100_133, w100_134, w100_136, w100_139, w100_140, w100_141, w100_142, w100_145, w100_146, w100_151, w100_152, w100_154, w100_157, w100_159, w100_164, w100_165, w100_167, w100_170, w100_172, w100_177, w100_178iu, w100_180, w100_181, w100_102, c16, w16_0, w16_1, w16_4, w16_5, w16_6, w16_9, w16_10, w16_11, w16_14, w16_15, w16_16, w16_91, w16_92, w16_95, w16_96, w16_97, w16_100, w16_101, w16_102, w16_105, Int.reduceAdd, isO_put, cs_nil, cs_int, Option.toList_some, List.cons_append, List.nil_append, true_and, and_true, ↓reduceIte, Nat.reduceAdd, Nat.reduceLeDiff, Int32.reduceAdd, Int64.reduceAdd, Nat.add_zero, Nat.zero_add, g18, g22, t31 hm, t34 hm, hn', Int32.zero_add, k1, k2]
    exact go _
  · rw [w100_96]
    simp +decide only [w100_97, w100_99, w100_100j, w100_104, w100_105, w100_108, w100_110, w100_111, w100_113, w100_116, w100_117i, w100_119, w100_122, w100_125, w100_127, w100_128, w100_133, w100_134, w100_136, w100_139, w100_140, w100_141, w100_142, w100_145, w100_146, w100_151, w100_152, w100_154, w100_157, w100_159, w100_164, w100_165, w100_167, w100_170, w100_172, w100_177, w100_178iu, w100_180, w100_181, w100_102, c16, w16_0, w16_1, w16_4, w16_5, w16_6, w16_9, w16_10, w16_11, w16_14, w16_15, w16_16, w16_91, w16_92, w16_95, w16_96, w16_97, w16_100, w16_101, w16_102, w16_105, Int.reduceAdd, isO_put, cs_nil, cs_int, Option.toList_some, List.cons_append, List.nil_append, true_and, and_true, ↓reduceIte, Nat.reduceAdd, Nat.reduceLeDiff, Int32.reduceAdd, Int64.reduceAdd, Nat.add_zero, Nat.zero_add, g18, g22, t31 hm, t34 hm, hn', Int32.zero_add, k1, k2]
    exact go _
theorem lq {nn : Int32} {l3 l4 l5 l6 l7 l8 l9 l10 l11 l12 l13 l14 l15 l19 l20 : Slot} (hI : Iv s) (hn : sI s 0 = nn) (n8 : 2 ≤ nn.toInt ∧ nn.toInt ≤ 8)
    (hW : ∀ q : Int64, (∀ j, j < nn.toInt.toNat → q.toBitVec.getLsbD j = decide (0 < sA s 3 j)) → W (pj lw) 100 749 [.val (.ref a), .val (.int nn), .val (.ref p), l3, l4, l5, l6, l7, l8, l9, l10, l11, l12, l13, l14, l15, .val (.long q), .second, .val (.int nn), l19, l20] [] k n (ob H p s) Q) (m : Nat) : ∀ (i : Int32) (q : Int64), i.toInt = nn.toInt - m → 0 ≤ i.toInt → (∀ j, j < 64 → q.toBitVec.getLsbD j = (decide (j < i.toInt.toNat) && decide (0 < sA s 3 j))) →
    W (pj lw) 100 719 [.val (.ref a), .val (.int nn), .val (.ref p), l3, l4, l5, l6, l7, l8, l9, l10, l11, l12, l13, l14, l15, .val (.long q), .second, .val (.int i), l19, l20] [] k n (ob H p s) Q := by
  have hb := (Iv_b hI).2
  induction m with
  | zero =>
    intro i q hi h0 hq
    have h1 : ¬ i < nn := by rw [lt32]; omega
    have h2 : i = nn := by rw [eq32]; omega
    subst h2
    rw [w100_719]; simp +decide only [w100_721, w100_722, ↓reduceIte, h1]
    exact hW q (fun j hj => by rw [hq j (by omega)]; simp only [hj, decide_true, Bool.true_and])
  | succ m ih =>
    intro i q hi h0 hq
    have h1 : i < nn := by rw [lt32]; omega
    have n0 : ¬ i < 0 := by rw [lt32]; simp only [Int32.reduceToInt]; omega
    have h2 : (i + 1).toInt = i.toInt + 1 := ia (by simp only [Int32.reduceToInt]; omega) (by simp only [Int32.reduceToInt]; omega)
    have A10 := fun (Q : Option Value → AH → Prop) => t10 (lw := lw) (H := H) (p := p) (Q := Q) (a := i) hb
    have g : gt s 3 (-1) i = sA s 3 i.toNatClampNeg := by unfold gt; rw [hn, if_pos ⟨n0, h1⟩]
    rw [g] at A10
    rw [w100_719]
    by_cases e : 0 < sA s 3 i.toNatClampNeg
    · simp +decide only [w100_721, w100_722, w100_725, w100_726, w100_728, w100_731, w100_734, w100_736, w100_737, w100_739, w100_740, w100_741j, w100_743, w100_746, isO_put, Option.toList_some, List.cons_append, List.nil_append, true_and, and_true, ↓reduceIte, h1, A10, e]
      refine ih (i + 1) _ (by omega) (by omega) (fun j hj => ?_)
      rw [bit_or i (by omega), hq j hj, h2]
      by_cases z : j = i.toInt.toNat
      · subst z; rw [cln] at e; simp only [e, decide_true, Bool.or_true, Bool.and_true]
        exact (decide_eq_true (by omega)).symm
      · have z1 : decide (j < (i.toInt + 1).toNat) = decide (j < i.toInt.toNat) := by rw [Bool.eq_iff_iff]; simp only [decide_eq_true_eq]; omega
        rw [z1]; simp only [z, decide_false, Bool.or_false]
    · simp +decide only [w100_721, w100_722, w100_725, w100_726, w100_728, w100_731, w100_743, w100_746, isO_put, Option.toList_some, List.cons_append, List.nil_append, true_and, and_true, ↓reduceIte, h1, A10, e]
      refine ih (i + 1) _ (by omega) (by omega) (fun j hj => ?_)
      rw [hq j hj, h2]
      by_cases z : j = i.toInt.toNat
      · subst z; rw [cln] at e; simp only [e, decide_false, Bool.and_false]
      · have z1 : decide (j < (i.toInt + 1).toNat) = decide (j < i.toInt.toNat) := by rw [Bool.eq_iff_iff]; simp only [decide_eq_true_eq]; omega
        rw [z1]
set_option maxRecDepth 100000 in
theorem lr {nn : Int32} {q : Int64} {l3 l4 l5 l6 l7 l9 l10 l11 l12 l13 l14 l15 l18 : Slot} (hK : K s' B) (hn : sI s' 0 = nn) (n8 : 2 ≤ nn.toInt ∧ nn.toInt ≤ 8)
    (hq : ∀ i, i < nn.toInt.toNat → sA s' 7 i = sI s' 22 → q.toBitVec.getLsbD i = false ∧ (0 ≤ (sA s' 6 i).toInt → (sA s' 6 i).toInt < nn.toInt → q.toBitVec.getLsbD (sA s' 6 i).toInt.toNat = false))
    (hW : W (pj lw) 100 851 [.val (.ref a), .val (.int nn), .val (.ref p), l3, l4, l5, l6, l7, .val (.int (sI s' 22)), l9, l10, l11, l12, l13, l14, l15, .val (.long q), .second, l18, .val (.int nn), .unset] [] k n (ob H p s') Q) (m : Nat) : ∀ (i : Int32), i.toInt = nn.toInt - m → 0 ≤ i.toInt →
    W (pj lw) 100 771 [.val (.ref a), .val (.int nn), .val (.ref p), l3, l4, l5, l6, l7, .val (.int (sI s' 22)), l9, l10, l11, l12, l13, l14, l15, .val (.long q), .second, l18, .val (.int i), .unset] [] k n (ob H p s') Q := by
  have hI := hK.1.1
  have hb := (Iv_b hI).2
  induction m with
  | zero =>
    intro i hi h0
    have h1 : ¬ i < nn := by rw [lt32]; omega
    have h2 : i = nn := by rw [eq32]; omega
    subst h2
    rw [w100_771]; simp +decide only [w100_773, w100_774, ↓reduceIte, h1]
    exact hW
  | succ m ih =>
    intro i hi h0
    have h1 : i < nn := by rw [lt32]; omega
    have n0 : ¬ i < 0 := by rw [lt32]; simp only [Int32.reduceToInt]; omega
    have h2 : (i + 1).toInt = i.toInt + 1 := ia (by simp only [Int32.reduceToInt]; omega) (by simp only [Int32.reduceToInt]; omega)
    have A13 := fun (Q : Option Value → AH → Prop) => t13 (lw := lw) (H := H) (p := p) (Q := Q) (a := i) hb
    have A12 := fun (Q : Option Value → AH → Prop) => t12 (lw := lw) (H := H) (p := p) (Q := Q) (a := i) hb
    have g : ∀ t z, gt s' t z i = sA s' t i.toNatClampNeg := fun t z => by unfold gt; rw [hn, if_pos ⟨n0, h1⟩]
    rw [g] at A13 A12
    have nx := ih (i + 1) (by omega) (by omega)
    rw [w100_771]
    rcases Classical.propComplete (sA s' 7 i.toNatClampNeg = sI s' 22) with e | e
    · obtain ⟨q1, q2⟩ := hq i.toNatClampNeg (by rw [cln]; omega) (of_eq_true e)
      have B1 : Jvm.Free.XT.ushrL q i &&& 1 = 0 := (and1 (by omega)).mpr q1
      rcases Classical.propComplete (sA s' 6 i.toNatClampNeg = -1) with e2 | e2
      · simp +decide only [w100_773, w100_774, w100_777, w100_778, w100_780, w100_783, w100_785, w100_788, w100_789, w100_791, w100_794, w100_795, w100_845, w100_848, isO_put, Option.toList_some, List.cons_append, List.nil_append, true_and, and_true, ↓reduceIte, h1, A13, A12, e, e2]
        exact nx
      · by_cases e3 : sA s' 6 i.toNatClampNeg < 0
        · simp +decide only [w100_773, w100_774, w100_777, w100_778, w100_780, w100_783, w100_785, w100_788, w100_789, w100_791, w100_794, w100_795, w100_798, w100_800, w100_802, w100_803, w100_804, w100_805, w100_806, w100_807, w100_812, w100_813, w100_815, w100_818, w100_820, w100_822, w100_845, w100_848, isO_put, Option.toList_some, List.cons_append, List.nil_append, true_and, and_true, ↓reduceIte, h1, A13, A12, e, e2, e3, B1]
          exact W_fg (by repeat (first | exact lel_refl | apply lel_cons | apply lel_un rfl)) nx
        · by_cases e4 : sA s' 6 i.toNatClampNeg < nn
          · have r3 : 0 ≤ (sA s' 6 i.toNatClampNeg).toInt := by rw [lt32] at e3; simp only [Int32.reduceToInt] at e3; omega
            have r4 := lt32.mp e4
            have B2 : Jvm.Free.XT.ushrL q (sA s' 6 i.toNatClampNeg) &&& 1 = 0 := (and1 (by omega)).mpr (q2 r3 r4)
            simp +decide only [w100_773, w100_774, w100_777, w100_778, w100_780, w100_783, w100_785, w100_788, w100_789, w100_791, w100_794, w100_795, w100_798, w100_800, w100_802, w100_803, w100_804, w100_805, w100_806, w100_807, w100_812, w100_813, w100_815, w100_818, w100_820, w100_822, w100_825, w100_827, w100_828, w100_831, w100_833, w100_835, w100_836, w100_837, w100_838, w100_839, w100_840, w100_845, w100_848, isO_put, Option.toList_some, List.cons_append, List.nil_append, true_and, and_true, ↓reduceIte, h1, A13, A12, e, e2, e3, e4, B1, B2]
            exact W_fg (by repeat (first | exact lel_refl | apply lel_cons | apply lel_un rfl)) nx
          · simp +decide only [w100_773, w100_774, w100_777, w100_778, w100_780, w100_783, w100_785, w100_788, w100_789, w100_791, w100_794, w100_795, w100_798, w100_800, w100_802, w100_803, w100_804, w100_805, w100_806, w100_807, w100_812, w100_813, w100_815, w100_818, w100_820, w100_822, w100_825, w100_827, w100_828, w100_845, w100_848, isO_put, Option.toList_some, List.cons_append, List.nil_append, true_and, and_true, ↓reduceIte, h1, A13, A12, e, e2, e3, e4, B1]
            exact W_fg (by repeat (first | exact lel_refl | apply lel_cons | apply lel_un rfl)) nx
    · simp +decide only [w100_773, w100_774, w100_777, w100_778, w100_780, w100_783, w100_785, w100_845, w100_848, isO_put, Option.toList_some, List.cons_append, List.nil_append, true_and, and_true, ↓reduceIte, h1, A13, e]
      exact nx
theorem Cm_of {nn : Int32} {nc : Int64} (hF : Fp s nc nn.toInt) (hK : KK s B) (hn : sI s 0 = nn) (n8 : 2 ≤ nn.toInt ∧ nn.toInt ≤ 8) (h0 : sI s' 0 = sI s 0) (hmono : ∀ i, i < nN s → (sA s 1 i).toInt ≤ (sA s' 1 i).toInt) : Cm s' nc := by
  intro j j0 jl
  rw [h0, hn, lt32] at jl
  have hj : j.toNatClampNeg < nN s := by unfold nN; rw [hn, cln]; omega
  rw [(hF j j0 (by omega)).1 jl, c64 (hK _ hj).c4, lt32]
  have := hmono _ hj; omega
def In2 (s : St) (nn : Int32) (E P : Int64) (kk : Int) : Prop := K s (16 * kk) ∧ sI s 0 = nn ∧ PB s E ∧ Cm s P ∧ (sI s 22).toInt ≤ kk ∧ 3 * (sI s 18).toInt ≤ kk
set_option maxRecDepth 100000 in
set_option maxHeartbeats 8000000 in
theorem lp {nn : Int32} {c : Nat} (ha : a < p) (hl : len ≤ 260) (n8 : 2 ≤ nn.toInt ∧ nn.toInt ≤ 8) (m : Nat) : ∀ (kk : Int32) (E P : Int64) (s : St) (l11 l12 l16 l17 : Slot), In2 s nn E P kk.toInt → ((l11 = .unset ∧ l12 = .unset) ∨ ∃ w, l11 = .val (.long w) ∧ l12 = .second) → ((l16 = .unset ∧ l17 = .unset) ∨ ∃ w, l16 = .val (.long w) ∧ l17 = .second) → 0 ≤ kk.toInt → kk.toInt ≤ 300 → 250 ≤ kk.toInt + m →
    W (pj lw) 100 96 [.val (.ref a), .val (.int nn), .val (.ref p), .val (.long E), .second, .val (.int (sI s 18)), .val (.long P), .second, .val (.int (sI s 22)), .val (.int kk), .unset, l11, l12, .unset, .unset, .unset, l16, l17, .unset, .unset, .unset] [] k n (ob (H1 c a len f) p s) (fun v _ => v = some (.int 1)) := by
  have hlen : (len.toInt32).toInt = len := len32 (by omega)
  induction m with
  | zero =>
    intro kk E P s l11 l12 l16 l17 hIn h1112 h1617 h0 h4 hm
    obtain ⟨hK, hn, hE, hP, hd, he⟩ := hIn
    obtain ⟨y1, y2, y3, y4⟩ := sc1 (c := c) (len := len) (f := f) (s := s) ha
    have h246 : ¬ kk < 246 := by rw [lt32]; simp only [Int32.reduceToInt]; omega
    refine chk hK hn n8 hE hP rfl h1112 h1617 (fun nc sm hF => ?_)
    by_cases g : kk < len.toInt32 <;> simp +decide only [w100_514, w100_516, w100_517, w100_518, w100_521, w100_523, w100_526, w100_529, w100_857, w100_858, and_true, ↓reduceIte, y1, y2, g, h246]
  | succ m ih =>
    intro kk E P s l11 l12 l16 l17 hIn h1112 h1617 h0 h4 hm
    obtain ⟨hK, hn, hE, hP, hd, he⟩ := hIn
    obtain ⟨y1, y2, y3, y4⟩ := sc1 (c := c) (len := len) (f := f) (s := s) ha
    refine chk hK hn n8 hE hP rfl h1112 h1617 (fun nc sm hF => ?_)
    clear h1112 h1617
    by_cases g : kk < len.toInt32
    rotate_left
    · simp +decide only [w100_514, w100_516, w100_517, w100_518, w100_857, w100_858, and_true, ↓reduceIte, y1, y2, g]
    by_cases g2 : kk < 246
    rotate_left
    · simp +decide only [w100_514, w100_516, w100_517, w100_518, w100_521, w100_523, w100_526, w100_529, w100_857, w100_858, and_true, ↓reduceIte, y1, y2, g, g2]
    have g2' := lt32.mp g2
    simp only [Int32.reduceToInt] at g2'
    have k1 : (kk + 1).toInt = kk.toInt + 1 := ia (by simp only [Int32.reduceToInt]; omega) (by simp only [Int32.reduceToInt]; omega)
    have k2 : (kk + 2).toInt = kk.toInt + 2 := ia (by simp only [Int32.reduceToInt]; omega) (by simp only [Int32.reduceToInt]; omega)
    have k3 : (kk + 3).toInt = kk.toInt + 3 := ia (by simp only [Int32.reduceToInt]; omega) (by simp only [Int32.reduceToInt]; omega)
    have nn0 : (nn = 0) = False := eq_false (fun e => by rw [e] at n8; exact absurd n8.1 (by decide))
    have C0 := fun (Q : Option Value → AH → Prop) => s102 (x := kk) (Q := Q) y1 y2 y3 y4 hl h0
    have C1 := fun (Q : Option Value → AH → Prop) => s102 (x := kk + 1) (Q := Q) y1 y2 y3 y4 hl (by omega)
    have C2 := fun (Q : Option Value → AH → Prop) => s102 (x := kk + 2) (Q := Q) y1 y2 y3 y4 hl (by omega)
    have N8 := fun (x : Int32) (H : AH) (Q : Option Value → AH → Prop) => s103 (x := x) (y := 8) (H := H) (Q := Q) (by decide)
    have N801 := fun (x : Int32) (H : AH) (Q : Option Value → AH → Prop) => s103 (x := x) (y := 801) (H := H) (Q := Q) (by decide)
    have Nn := fun (x : Int32) (H : AH) (Q : Option Value → AH → Prop) => s103 (x := x) (y := nn) (H := H) (Q := Q) nn0
    have key : ∀ (s' : St) (E' : Int64) (e1 e2 : Int32) (l13 l14 l15 l16 l17 l18 l19 l20 : Slot), In2 s' nn E' nc (kk + 3).toInt → e1 = sI s' 18 → e2 = sI s' 22 → ((cat1 l16 = true ∧ cat1 l17 = true) ∨ ∃ w, l16 = .val (.long w) ∧ l17 = .second) → cat1 l13 = true → cat1 l14 = true → cat1 l15 = true → cat1 l18 = true → cat1 l19 = true → cat1 l20 = true →
        W (pj lw) 100 851 [.val (.ref a), .val (.int nn), .val (.ref p), .val (.long E'), .second, .val (.int e1), .val (.long nc), .second, .val (.int e2), .val (.int kk), .val (.int sm), .val (.long nc), .second, l13, l14, l15, l16, l17, l18, l19, l20] [] k n (ob (H1 c a len f) p s') (fun v _ => v = some (.int 1)) := by
      intro s' E' e1 e2 l13 l14 l15 l16 l17 l18 l19 l20 hI' q1 q2 q c13 c14 c15 c18 c19 c20
      subst q1 q2
      simp +decide only [w100_851, w100_854]
      rcases q with ⟨c16, c17⟩ | ⟨w, rfl, rfl⟩
      · exact W_fg (lel_cons <| lel_cons <| lel_cons <| lel_cons <| lel_cons <| lel_cons <| lel_cons <| lel_cons <| lel_cons <| lel_cons <| lel_un rfl <| lel_cons <| lel_cons <| lel_un c13 <| lel_un c14 <| lel_un c15 <| lel_un c16 <| lel_un c17 <| lel_un c18 <| lel_un c19 <| lel_un c20 lel_refl) (ih (kk + 3) E' nc s' (.val (.long nc)) .second .unset .unset hI' (Or.inr ⟨_, rfl, rfl⟩) (Or.inl ⟨rfl, rfl⟩) (by omega) (by omega) (by omega))
      · exact W_fg (lel_cons <| lel_cons <| lel_cons <| lel_cons <| lel_cons <| lel_cons <| lel_cons <| lel_cons <| lel_cons <| lel_cons <| lel_un rfl <| lel_cons <| lel_cons <| lel_un c13 <| lel_un c14 <| lel_un c15 <| lel_cons <| lel_cons <| lel_un c18 <| lel_un c19 <| lel_un c20 lel_refl) (ih (kk + 3) E' nc s' (.val (.long nc)) .second (.val (.long w)) .second hI' (Or.inr ⟨_, rfl, rfl⟩) (Or.inr ⟨_, rfl, rfl⟩) (by omega) (by omega) (by omega))
    clear ih
    simp +decide only [w100_514, w100_516, w100_517, w100_518, w100_521, w100_523, w100_526, w100_532, w100_533, w100_535, w100_538, w100_540, w100_543i, w100_545, w100_546, w100_548, w100_549, w100_550, w100_553, w100_554, w100_557, w100_559, w100_560, w100_562, w100_563, w100_564, w100_567, w100_568, w100_571, Option.toList_some, List.cons_append, List.nil_append, true_and, ↓reduceIte, y1, y2, g, g2, C0, C1, C2, N8, Nn]
    have hx := nz_rg (x := cel f len (kk + 1)) (y := nn) (by omega)
    have hy := nz_rg (x := cel f len (kk + 2)) (y := nn) (by omega)
    have hpm := nz_rg (x := Jvm.Free.XT.ushr (cel f len kk) 3) (y := 801) (by decide)
    generalize nz (cel f len kk) 8 = op
    generalize nz (cel f len (kk + 1)) nn = x at *
    generalize nz (cel f len (kk + 2)) nn = y at *
    have hI := hK.1.1
    have hb := (Iv_b hI).2
    have KKs := hK.2.1
    have M4 : 16 * kk.toInt ≤ 16 * (kk + 3).toInt := by omega
    have same : In2 s nn E nc (kk + 3).toInt := ⟨hK.mono M4, hn, hE, Cm_of hF KKs hn n8 rfl (fun i _ => Int.le_refl _), by omega, by omega⟩
    by_cases c2f : op < 2
    · -- an edge
      generalize hpe : nz (Jvm.Free.XT.ushr (cel f len kk) 3) 801 = pz at *
      simp only [Int32.reduceToInt] at hpm
      have pe : (200 + pz).toInt = 200 + pz.toInt := ia (by simp only [Int32.reduceToInt]; omega) (by simp only [Int32.reduceToInt]; omega)
      have p1 : ¬ 200 + pz < 1 := by rw [lt32, pe]; simp only [Int32.reduceToInt]; omega
      have p2 : ¬ 1000 < 200 + pz := by rw [lt32, pe]; simp only [Int32.reduceToInt]; omega
      have A4 := fun (Q : Option Value → AH → Prop) => t4' (lw := lw) (H := H1 c a len f) (p := p) (s := s) (Q := Q) (a := x) (b := y) (w := 200 + pz) hI.1.2.1
      generalize hpm' : 200 + pz = pm at *
      have x0 : ¬ x < 0 := by rw [lt32]; simp only [Int32.reduceToInt]; omega
      have xn : x < sI s 0 := by rw [hn, lt32]; omega
      have y0 : ¬ y < 0 := by rw [lt32]; simp only [Int32.reduceToInt]; omega
      have yn : y < sI s 0 := by rw [hn, lt32]; omega
      have n18 : sI s 18 < 256 := by rw [lt32]; simp only [Int32.reduceToInt]; omega
      have noT : aeOk s x y pm = false → aeT s x y pm = s ∧ aeR s x y pm = -1 := fun q => by
        unfold aeT aeR; rw [q]; exact ⟨rfl, rfl⟩
      rcases Classical.propComplete (x = y) with exy | exy
      · obtain ⟨eT, eR⟩ := noT (decide_eq_false (fun g => g.2.1 (of_eq_true exy)))
        rw [eT, eR] at A4
        simp +decide only [w100_573, w100_575, w100_576, w100_579, w100_582, w100_583, w100_585, w100_588, w100_589, w100_590, w100_593, w100_596, w100_597, w100_599, w100_600, w100_602, w100_604, w100_606, w100_609, w100_611, w100_613, w100_615, w100_634, w100_635, w100_639, w100_641, w100_643, w100_646, w100_648, w100_649, w100_678, isO_put, Option.toList_some, List.cons_append, List.nil_append, true_and, and_true, ↓reduceIte, c2f, C0, N801, hpe, hpm', A4, exy]
        exact key s E _ _ _ _ _ _ _ _ _ _ same rfl rfl (Or.inl ⟨rfl, rfl⟩) rfl rfl rfl rfl rfl rfl
      · have exy' : ¬ x = y := of_eq_false exy
        have hbit := PB_bt hE (u := x) (v := y) (by omega) (by omega) exy'
        by_cases ad : adj s x.toNatClampNeg y.toNatClampNeg
        · obtain ⟨eT, eR⟩ := noT (decide_eq_false (fun q => by have := (exE_adj hI.1 hx.1 hy.1).mpr ad; rw [q.2.2.2.1] at this; exact absurd this (by decide)))
          rw [eT, eR] at A4
          have hbit' : (Jvm.Free.XT.ushrL E (bt x y) &&& 1 = 0) = False := hbit.trans (eq_false (fun g => g ad))
          simp +decide only [w100_573, w100_575, w100_576, w100_579, w100_582, w100_583, w100_585, w100_588, w100_589, w100_590, w100_593, w100_596, w100_597, w100_599, w100_600, w100_602, w100_604, w100_606, w100_609, w100_611, w100_613, w100_615, w100_618, w100_619, w100_621, w100_623, w100_626, w100_627, w100_628, w100_629, w100_630, w100_631, w100_634, w100_635, w100_639, w100_641, w100_643, w100_646, w100_648, w100_649, w100_678, isO_put, cs_nil, cs_long, cmpL_eq, Option.toList_some, List.cons_append, List.nil_append, true_and, and_true, ↓reduceIte, Nat.reduceAdd, Nat.reduceLeDiff, Int32.reduceAdd, Int64.reduceAdd, Nat.add_zero, c2f, C0, N801, hpe, hpm', A4, exy, s104, hbit']
          exact key s E _ _ _ _ _ _ _ _ _ _ same rfl rfl (Or.inl ⟨rfl, rfl⟩) rfl rfl rfl rfl rfl rfl
        · have hbit' : (Jvm.Free.XT.ushrL E (bt x y) &&& 1 = 0) = True := hbit.trans (eq_true ad)
          have ok : aeOk s x y pm = true := decide_eq_true ⟨⟨⟨x0, xn⟩, y0, yn⟩, exy', ⟨p1, p2⟩, by
            cases q : exE s x y (sI s 18).toInt.toNat 0 with
            | false => rfl
            | true => exact absurd ((exE_adj hI.1 hx.1 hy.1).mp q) ad, n18⟩
          have eT : aeT s x y pm = aeS s x y pm := by unfold aeT; rw [if_pos ok]
          have eR : aeR s x y pm = sI s 18 := by unfold aeR; rw [if_pos ok]
          have KT := (ae_K (a := x) (b := y) (w := pm) hK).mono M4
          rw [eT] at KT
          rw [eT, eR] at A4
          have eI : ∀ z, z ≠ 18 → sI (aeS s x y pm) z = sI s z := fun z hz => by simp only [aeS, sI_uI, sI_uA, hz, if_false]
          have e18 : sI (aeS s x y pm) 18 = sI s 18 + 1 := by simp +decide only [aeS, sI_uI, ↓reduceIte]
          have e1A : ∀ i, sA (aeS s x y pm) 1 i = sA s 1 i := fun i => by simp +decide only [aeS, sA_uI, sA_uA, false_and, ↓reduceIte]
          have b18 := hI.1.2.1
          simp +decide only [w100_573, w100_575, w100_576, w100_579, w100_582, w100_583, w100_585, w100_588, w100_589, w100_590, w100_593, w100_596, w100_597, w100_599, w100_600, w100_602, w100_604, w100_606, w100_609, w100_611, w100_613, w100_615, w100_618, w100_619, w100_621, w100_623, w100_626, w100_627, w100_628, w100_629, w100_630, w100_631, w100_638, w100_639, w100_641, w100_643, w100_654, w100_656, w100_658, w100_663, w100_664, w100_665, w100_667, w100_669, w100_672, w100_673, w100_674j, w100_675, w100_678, isO_put, cs_nil, cs_long, cmpL_eq, Option.toList_some, List.cons_append, List.nil_append, true_and, and_true, ↓reduceIte, Nat.reduceAdd, Nat.reduceLeDiff, Int32.reduceAdd, Int64.reduceAdd, Nat.add_zero, c2f, C0, N801, hpe, hpm', A4, exy, s104, hbit']
          exact key (aeS s x y pm) _ _ _ _ _ _ _ _ _ _ _ ⟨KT, (eI 0 (by decide)).trans hn, PB_new hE (by omega) (by omega) exy' (by rw [lt32] at n18; simp only [Int32.reduceToInt] at n18; omega), Cm_of hF KKs hn n8 (eI 0 (by decide)) (fun i _ => by rw [e1A]; omega), by rw [eI 22 (by decide)]; omega, by rw [e18, ia (by simp only [Int32.reduceToInt]; omega) (by simp only [Int32.reduceToInt]; omega)]; simp only [Int32.reduceToInt]; omega⟩ e18.symm (eI 22 (by decide)).symm (Or.inl ⟨rfl, rfl⟩) rfl rfl rfl rfl rfl rfl
    by_cases o2 : op = 2
    · have A5 := fun (Q : Option Value → AH → Prop) => t5' (lw := lw) (H := H1 c a len f) (p := p) (s := s) (Q := Q) (a := x) hb
      have KT := (in_K (a := x) hK).mono M4
      have eI : ∀ z, sI (inT s x) z = sI s z := fun z => by unfold inT inS; split <;> simp only [sI_uA]
      have e12 : ∀ t i, t ≠ 1 ∧ t ≠ 2 ∧ t ≠ 6 ∧ t ≠ 7 ∧ t ≠ 8 → sA (inT s x) t i = sA s t i := fun t i ht => by unfold inT inS; split <;> simp only [sA_uA, ht.1, ht.2.1, ht.2.2.1, ht.2.2.2.1, ht.2.2.2.2, false_and, if_false]
      have mono : ∀ i, i < nN s → (sA s 1 i).toInt ≤ (sA (inT s x) 1 i).toInt := fun i hi => by
        unfold inT; split
        · rename_i ok
          simp +decide only [inS, sA_uA, true_and, false_and, ↓reduceIte]
          split
          · rcases (KKs i hi).c4 with e | e | e | e <;> rw [e] <;> (try decide)
            rename_i hix; subst hix
            have := (of_decide_eq_true ok).2; rw [e] at this; exact absurd this (by decide)
          · omega
        · omega
      subst o2
      simp +decide only [w100_573, w100_575, w100_576, w100_681, w100_683, w100_684, w100_687, w100_688, w100_690, w100_693, w100_694, isO_put, Option.toList_some, List.cons_append, List.nil_append, true_and, and_true, ↓reduceIte, A5]
      exact key (inT s x) E _ _ _ _ _ _ _ _ _ _ ⟨KT, (eI 0).trans hn, hE.of (eI 18) (fun i => e12 12 i (by decide)) (fun i => e12 13 i (by decide)), Cm_of hF KKs hn n8 (eI 0) mono, by rw [eI]; omega, by rw [eI]; omega⟩ (eI 18).symm (eI 22).symm (Or.inl ⟨rfl, rfl⟩) rfl rfl rfl rfl rfl rfl
    by_cases o3 : op = 3
    · have A6 := fun (Q : Option Value → AH → Prop) => t6' (lw := lw) (H := H1 c a len f) (p := p) (s := s) (Q := Q) (a := x) hb
      have KT := (rq_K (a := x) hK).mono M4
      have eI : ∀ z, sI (rqT s x) z = sI s z := fun z => by unfold rqT rqS; split <;> simp only [sI_uA]
      have eA : ∀ t i, t ≠ 5 → sA (rqT s x) t i = sA s t i := fun t i ht => by unfold rqT rqS; split <;> simp only [sA_uA, ht, false_and, if_false]
      subst o3
      simp +decide only [w100_573, w100_575, w100_576, w100_681, w100_683, w100_684, w100_697, w100_699, w100_700, w100_703, w100_704, w100_706, w100_709, w100_710, isO_put, Option.toList_some, List.cons_append, List.nil_append, true_and, and_true, ↓reduceIte, A6]
      exact key (rqT s x) E _ _ _ _ _ _ _ _ _ _ ⟨KT, (eI 0).trans hn, hE.of (eI 18) (fun i => eA 12 i (by decide)) (fun i => eA 13 i (by decide)), Cm_of hF KKs hn n8 (eI 0) (fun i _ => by rw [eA 1 i (by decide)]; omega), by rw [eI]; omega, by rw [eI]; omega⟩ (eI 18).symm (eI 22).symm (Or.inl ⟨rfl, rfl⟩) rfl rfl rfl rfl rfl rfl
    · -- a day
      have A7 := fun (Q : Option Value → AH → Prop) => t7 (lw := lw) (H := H1 c a len f) (p := p) (s := s) (Q := Q) (a := 1) hI
      simp only [runF_1] at A7
      obtain ⟨d1, d2⟩ := day_K hK (by omega) (by omega)
      have h22 := hK.2.2.2.2
      have v22 : sI (dayS s) 22 = sI s 22 + 1 := by rw [eq32, d2.d22, ia (by simp only [Int32.reduceToInt]; omega) (by simp only [Int32.reduceToInt]; omega)]; rfl
      simp +decide only [w100_573, w100_575, w100_576, w100_681, w100_683, w100_684, w100_697, w100_699, w100_700, w100_713, w100_714uu, w100_716, w100_717, ↓reduceIte, c2f, o2, o3]
      refine lq hI hn n8 (fun q hq => ?_) nn.toInt.toNat 0 0 (by simp only [Int32.reduceToInt]; omega) (by decide) (fun j hj => by simp)
      simp +decide only [w100_749, w100_750, w100_751, w100_754i, w100_756, w100_759, w100_761, w100_763, w100_768, w100_769, isO_put, Option.toList_some, List.cons_append, List.nil_append, true_and, and_true, ↓reduceIte, A7, v22]
      rw [← v22]
      refine lr d1 ((d2.dI 0 (by decide)).trans hn) n8 (fun i hi e => ?_) ?_ nn.toInt.toNat 0 (by simp only [Int32.reduceToInt]; omega) (by decide)
      · obtain ⟨w1, w2⟩ := d2.new i (by unfold nN; rw [hn]; exact hi) (by rw [e, d2.d22])
        refine ⟨by rw [hq i hi]; simp [w1], fun r1 r2 => ?_⟩
        have := w2 r1
        rw [hq _ (by omega), ← cln]; exact decide_eq_false this
      · rw [v22]
        exact key (dayS s) E _ _ _ _ _ _ _ _ _ _ ⟨d1.mono (by omega), (d2.dI 0 (by decide)).trans hn, hE.of (d2.dI 18 (by decide)) d2.d12 d2.d13, Cm_of hF KKs hn n8 (d2.dI 0 (by decide)) d2.up, by rw [d2.d22]; omega, by rw [d2.dI 18 (by decide)]; omega⟩ (d2.dI 18 (by decide)).symm v22.symm (Or.inr ⟨_, rfl, rfl⟩) rfl rfl rfl rfl rfl rfl
theorem K_ini {x y z w : Int32} : K (ini0 x y z w) 0 := by
  have hr0 := cl_rg (lo := 2) (hi := 128) x (by decide)
  have hr1 := cl_rg (lo := 1) (hi := 8) y (by decide)
  have hr2 := cl_rg (lo := 1) (hi := 8) z (by decide)
  have hr3 := cl_rg (lo := 1) (hi := 16) w (by decide)
  simp only [Int32.reduceToInt] at hr0 hr1 hr2 hr3
  have cI : sI (ini0 x y z w) 0 = cl 2 128 x ∧ sI (ini0 x y z w) 1 = cl 1 8 y ∧ sI (ini0 x y z w) 2 = cl 1 8 z ∧ sI (ini0 x y z w) 3 = cl 1 16 w ∧ sI (ini0 x y z w) 18 = 0 ∧ sI (ini0 x y z w) 20 = 0 ∧ sI (ini0 x y z w) 21 = 0 ∧ sI (ini0 x y z w) 22 = 0 := by simp +decide only [ini0, F1, sI_uI, sI_fA, and_true, ↓reduceIte]
  have cA : ∀ i, i < 128 → sA (ini0 x y z w) 1 i = 0 ∧ sA (ini0 x y z w) 2 i = 0 ∧ sA (ini0 x y z w) 3 i = 0 ∧ sA (ini0 x y z w) 4 i = 0 ∧ sA (ini0 x y z w) 5 i = 0 ∧ sA (ini0 x y z w) 6 i = -2 ∧ sA (ini0 x y z w) 7 i = -1 ∧ sA (ini0 x y z w) 8 i = -1 := fun i hi => by
    simp +decide only [ini0, F1, sA_uI, sA_fA, and_true, ↓reduceIte, hi, Nat.zero_le]
  have iv : Iv (ini0 x y z w) := Iv_ini
  obtain ⟨c0, c1, c2, c3, c18, c20, c21, c22⟩ := cI
  have hn : ∀ i, i < nN (ini0 x y z w) → i < 128 := fun i hi => by unfold nN at hi; rw [c0] at hi; omega
  generalize ini0 x y z w = s at *
  refine ⟨⟨iv, fun i hi => ?_, fun i hi => ?_, ?_, ?_, ?_⟩, fun i hi => ?_, fun i hi => ?_, ?_, ?_⟩
  · have := cA i (hn i hi); exact Or.inl ⟨this.1, this.2.2.2.2.2.1⟩
  · have := cA i (hn i hi); exact Or.inl ⟨this.2.2.2.1, Or.inl this.2.2.2.2.1⟩
  · rw [c21, cnt_none _ _ fun i _ hi => by rw [(cA i (hn i (by omega))).2.2.2.1]; decide]; rfl
  · rw [c20, c21]; decide
  · rw [c20]; decide
  · obtain ⟨a1, a2, a3, a4, a5, a6, a7, a8⟩ := cA i (hn i hi); exact Or.inl ⟨a1, a2, a6, a7, a8, a4⟩
  · rw [(cA i (hn i hi)).2.2.1, c3]; simp only [Int32.reduceToInt]; omega
  · unfold KCz; rw [c1, c2, c3]; omega
  · rw [c22]; decide
theorem H1_c {c N a len : Nat} {f : Nat → Int32} : (c, (H1 N a len f).2) = H1 c a len f := rfl
theorem scP {y : Lay} {j c N : Nat} {s : St} (ha : a < N) : (isA (put y j (c, (H1 N a len f).2) N s) a = true) = True ∧ alen (put y j (c, (H1 N a len f).2) N s) a = len ∧ (∀ i, (inA (put y j (c, (H1 N a len f).2) N s) a .int i = true) = (0 ≤ i.toInt ∧ i.toInt < len)) ∧ ∀ i, elt (put y j (c, (H1 N a len f).2) N s) a i = .int (f i.toNatClampNeg) := by
  rw [H1_c]
  refine ⟨?_, ?_, fun i => ?_, fun i => ?_⟩
  · rw [isA_ot (Or.inl ha), isA_H1]; exact eq_self _ ▸ rfl
  · rw [alen_ot (Or.inl ha), alen_H1]
  · rw [inA_ot (Or.inl ha)]; exact propext inA_H1
  · rw [elt_ot (Or.inl ha), elt_H1]
set_option maxRecDepth 100000 in
theorem law_ok (N a len : Nat) (f : Nat → Int32) (ha : a < N) (hl : len ≤ 260) : Cl (pj lw) 100 [.ref a] (H1 N a len f) (fun v _ => v = some (.int 1)) := by
  rw [c100]
  have e1 : (H1 N a len f).1 = N := rfl
  have C0 := fun (Q : Option Value → AH → Prop) => s102 (H := H1 N a len f) (a := a) (len := len) (f := f) (x := 0) (Q := Q) (eq_true isA_H1) alen_H1 (fun i => propext inA_H1) (fun i => elt_H1) hl (by decide)
  have C := fun (x : Int32) (h : 0 ≤ x.toInt) (j c : Nat) (s : St) (Q : Option Value → AH → Prop) => s102 (H := put Pj.lay j (c, (H1 N a len f).2) N s) (a := a) (len := len) (f := f) (x := x) (Q := Q) (scP ha).1 (scP ha).2.1 (scP ha).2.2.1 (scP ha).2.2.2 hl h
  have C1 := C 1 (by decide)
  have C2 := C 2 (by decide)
  have C3 := C 3 (by decide)
  have C4 := C 4 (by decide)
  have C5 := C 5 (by decide)
  have N7 := fun (x : Int32) (H : AH) (Q : Option Value → AH → Prop) => s103 (x := x) (y := 7) (H := H) (Q := Q) (by decide)
  have N4 := fun (x : Int32) (H : AH) (Q : Option Value → AH → Prop) => s103 (x := x) (y := 4) (H := H) (Q := Q) (by decide)
  have N8 := fun (x : Int32) (H : AH) (Q : Option Value → AH → Prop) => s103 (x := x) (y := 8) (H := H) (Q := Q) (by decide)
  have r0 := nz_rg (x := cel f len 0) (y := 7) (by decide)
  simp only [Int32.reduceToInt] at r0
  simp +decide only [w100_0, w100_1, w100_2, w100_3, w100_6, w100_8, w100_11, w100_12, w100_13, w100_16, w100_17, w100_18, w100_19, w100_20, w100_21, w100_24, w100_25, w100_28, w100_29, w100_30, w100_31, w100_32, w100_35, w100_36, w100_39, w100_40, w100_41, w100_42, w100_43, w100_46, w100_48, w100_51, w100_52, w100_55, w100_56, w100_57, w100_58, w100_59, w100_62, w100_65, w100_66, w100_67, w100_68, w100_69, w100_72, w100_73, w100_76, w100_77, w100_80, w100_81, w100_82uu, w100_83, w100_84, w100_86, w100_87uu, w100_89, w100_90, w100_92, w100_94, isO_put, cs_nil, cs_int, cs_ref, Option.toList_some, Option.toList_none, List.cons_append, List.nil_append, true_and, and_true, Nat.reduceAdd, Nat.reduceLeDiff, Int32.reduceAdd, Int64.reduceAdd, Nat.add_zero, Nat.zero_add, mkO_ob, t1, t2, t3, e1, C0, C1, C2, C3, C4, C5, N7, N4, N8]
  simp only [H1_c]
  generalize hv : nz (cel f len 0) 7 = v0 at *
  have hn : (2 + v0).toInt = 2 + v0.toInt := ia (by simp only [Int32.reduceToInt]; omega) (by simp only [Int32.reduceToInt]; omega)
  generalize 2 + v0 = nn at *
  have hc : cl 2 128 nn = nn := by
    unfold cl; rw [if_neg (by rw [lt32]; simp only [Int32.reduceToInt]; omega), if_neg (by rw [lt32]; simp only [Int32.reduceToInt]; omega)]
  generalize 1 + nz (cel f len 1) 4 = L1
  generalize 1 + nz (cel f len 2) 4 = L2
  generalize 1 + nz (cel f len 3) 8 = L3
  generalize cel f len 4 = sd
  generalize 1 + nz (cel f len 5) 4 = cp
  have K0 := K_ini (x := nn) (y := L1) (z := L2) (w := L3)
  have i0 : sI (ini0 nn L1 L2 L3) 0 = nn ∧ sI (ini0 nn L1 L2 L3) 18 = 0 ∧ sI (ini0 nn L1 L2 L3) 22 = 0 := by simp +decide only [ini0, F1, hc, sI_uI, sI_fA, and_true, ↓reduceIte]
  have A0 : ∀ i, i < nn.toInt.toNat → sA (ini0 nn L1 L2 L3) 1 i = 0 := fun i hi => by
    have : i < 128 := by omega
    simp +decide only [ini0, F1, sA_uI, sA_fA, and_true, ↓reduceIte, this, Nat.zero_le]
  generalize ini0 nn L1 L2 L3 = s at *
  have K1 : K (uI s 23 sd) 0 := K0.I (Iv_sr K0.1.1) (fun x hx => by simp only [sI_uI, hx.2, if_false]) (fun t i => by rw [sA_uI])
  have K2 : K (uI (uI s 23 sd) 19 (cl 0 16 cp)) 0 := K1.I (Iv_sc K1.1.1) (fun x hx => by simp only [sI_uI, hx.1, if_false]) (fun t i => by rw [sA_uI])
  have j0 : sI (uI (uI s 23 sd) 19 (cl 0 16 cp)) 0 = nn := by simp +decide only [sI_uI, ↓reduceIte]; exact i0.1
  have j18 : sI (uI (uI s 23 sd) 19 (cl 0 16 cp)) 18 = 0 := by simp +decide only [sI_uI, ↓reduceIte]; exact i0.2.1
  have j22 : sI (uI (uI s 23 sd) 19 (cl 0 16 cp)) 22 = 0 := by simp +decide only [sI_uI, ↓reduceIte]; exact i0.2.2
  have jA : ∀ i, i < nn.toInt.toNat → sA (uI (uI s 23 sd) 19 (cl 0 16 cp)) 1 i = 0 := fun i hi => by rw [sA_uI, sA_uI]; exact A0 i hi
  generalize uI (uI s 23 sd) 19 (cl 0 16 cp) = s at *
  have := lp (p := N) (k := 15) (n := 2200) (c := N + 15) (f := f) (nn := nn) ha hl (by omega) 250 6 0 0 s .unset .unset .unset .unset ⟨K2.mono (by decide), j0, fun u v _ _ => ⟨fun g => absurd g (by simp), fun ⟨e, h1, _⟩ => absurd h1 (by rw [j18]; simp)⟩, fun j h0 hj => ?_, by rw [j22]; decide, by rw [j18]; decide⟩ (Or.inl ⟨rfl, rfl⟩) (Or.inl ⟨rfl, rfl⟩) (by decide) (by decide) (by decide)
  · rw [j18, j22] at this
    exact this
  · rw [j0, lt32] at hj
    rw [jA _ (by rw [cln]; omega)]
    unfold G2; rw [ushrL_0]; decide
end X2

end Jvm.JX.Lw
namespace Jvm.Pilot.@@N@@
open Jvm Jvm.ClassFile Sem Op Lib Jvm.Free Jvm.Stand Jvm.LawKit Jvm.RoadKit Bundle Jvm.Pilot.@@N@@.Jvm.D Jvm.JX Jvm.JX.Pj Jvm.JX.Lw
def nmL : List (Nat × MethodName) := [(1, ⟨"EpidemicTrace", "<init>", "(IIII)V"⟩), (2, ⟨"EpidemicTrace", "seedRandom", "(I)V"⟩), (3, ⟨"EpidemicTrace", "setCapacity", "(I)I"⟩), (4, ⟨"EpidemicTrace", "addEdge", "(III)I"⟩), (5, ⟨"EpidemicTrace", "infect", "(I)Z"⟩), (6, ⟨"EpidemicTrace", "requestTest", "(I)Z"⟩), (7, ⟨"EpidemicTrace", "run", "(I)I"⟩), (8, ⟨"EpidemicTrace", "compartment", "(I)I"⟩), (10, ⟨"EpidemicTrace", "quarantineLeft", "(I)I"⟩), (12, ⟨"EpidemicTrace", "source", "(I)I"⟩), (13, ⟨"EpidemicTrace", "infectionDay", "(I)I"⟩), (14, ⟨"EpidemicTrace", "generation", "(I)I"⟩), (15, ⟨"EpidemicTrace", "secondaryCases", "(I)I"⟩), (16, ⟨"EpidemicTrace", "count", "(I)I"⟩), (17, ⟨"EpidemicTrace", "clamp", "(III)I"⟩), (18, ⟨"EpidemicTrace", "valid", "(I)Z"⟩), (19, ⟨"EpidemicTrace", "draw", "()I"⟩), (20, ⟨"EpidemicTrace", "edgeExists", "(II)Z"⟩), (21, ⟨"EpidemicTrace", "simulateDay", "()V"⟩), (22, ⟨"EpidemicTrace", "snapshot", "()V"⟩), (23, ⟨"EpidemicTrace", "canInfect", "(II)Z"⟩), (24, ⟨"EpidemicTrace", "transmit", "()V"⟩), (25, ⟨"EpidemicTrace", "tryInfect", "(III)V"⟩), (26, ⟨"EpidemicTrace", "progress", "()V"⟩), (27, ⟨"EpidemicTrace", "quarantineTick", "()V"⟩), (28, ⟨"EpidemicTrace", "testing", "()V"⟩), (29, ⟨"EpidemicTrace", "testOne", "(I)V"⟩), (30, ⟨"EpidemicTrace", "trace", "(I)V"⟩), (31, ⟨"EpidemicTrace", "countCompartment", "(I)I"⟩), (34, ⟨"EpidemicTrace", "countInfected", "()I"⟩), (100, ⟨"EpidemicTraceOwnLaw", "law", "([I)Z"⟩), (102, ⟨"EpidemicTraceOwnLaw", "cell", "([II)I"⟩), (103, ⟨"EpidemicTraceOwnLaw", "nn", "(II)I"⟩), (104, ⟨"EpidemicTraceOwnLaw", "bit", "(II)I"⟩)]
def nm (m : Nat) : MethodName := (nmL.lookup m).getD ⟨"", "", ""⟩
def btL : List (Nat × ByteArray) := [(1, prog_1_method_1_code), (2, prog_1_method_2_code), (3, prog_1_method_3_code), (4, prog_1_method_4_code), (5, prog_1_method_5_code), (6, prog_1_method_6_code), (7, prog_1_method_7_code), (8, prog_1_method_8_code), (10, prog_1_method_10_code), (12, prog_1_method_12_code), (13, prog_1_method_13_code), (14, prog_1_method_14_code), (15, prog_1_method_15_code), (16, prog_1_method_16_code), (17, prog_1_method_17_code), (18, prog_1_method_18_code), (19, prog_1_method_19_code), (20, prog_1_method_20_code), (21, prog_1_method_21_code), (22, prog_1_method_22_code), (23, prog_1_method_23_code), (24, prog_1_method_24_code), (25, prog_1_method_25_code), (26, prog_1_method_26_code), (27, prog_1_method_27_code), (28, prog_1_method_28_code), (29, prog_1_method_29_code), (30, prog_1_method_30_code), (31, prog_1_method_31_code), (34, prog_1_method_34_code), (100, code), (102, method_2_code), (103, method_3_code), (104, method_4_code)]
def bt (m : Nat) : ByteArray := (btL.lookup m).getD ⟨#[]⟩
def fnL : List (String × String) := [("n", "I"), ("latent", "I"), ("infectious", "I"), ("qdays", "I"), ("comp", "[I"), ("timer", "[I"), ("qleft", "[I"), ("detected", "[Z"), ("pending", "[Z"), ("src", "[I"), ("infDay", "[I"), ("gen", "[I"), ("snapComp", "[I"), ("snapQ", "[Z"), ("selected", "[I"), ("edgeA", "[I"), ("edgeB", "[I"), ("edgeP", "[I"), ("edgeCount", "I"), ("cap", "I"), ("tests", "I"), ("positives", "I"), ("day", "I"), ("g", "I")]
def fn (k : Nat) : String × String := fnL.getD k ("", "")
def RL : List Nat := [1, 2, 3, 4, 5, 6, 7, 8, 10, 12, 13, 14, 15, 16, 17, 18, 19, 20, 21, 22, 23, 24, 25, 26, 27, 28, 29, 30, 31, 34, 100, 102, 103, 104]
def FS : List Nat := [0, 1, 2, 3, 4, 5, 6, 7, 8, 9, 10, 11, 12, 13, 14, 15, 16, 17, 18, 19, 20, 21, 22, 23]
def WF : List Nat := [0, 1, 2, 3, 18, 19, 20, 21, 22, 23]
def FL : List (Nat × Nat × Nat) := [(0, 7, 4), (0, 13, 5), (0, 16, 6), (0, 19, 7), (0, 23, 8), (0, 26, 9), (0, 29, 10), (0, 32, 11), (0, 35, 12), (0, 38, 13), (0, 41, 14), (0, 44, 15), (0, 47, 16), (0, 50, 17), (0, 57, 0), (0, 61, 1), (0, 64, 2), (0, 67, 3), (0, 70, 18), (0, 73, 19), (0, 76, 20), (0, 79, 21), (0, 82, 22), (0, 85, 23)]
def ML : List (Nat × Nat × Nat) := [(0, 53, 17), (0, 88, 18), (0, 92, 20), (0, 96, 21), (0, 99, 31), (0, 111, 34), (0, 116, 22), (0, 119, 24), (0, 122, 26), (0, 125, 27), (0, 128, 28), (0, 131, 23), (0, 134, 25), (0, 138, 19), (0, 141, 29), (0, 145, 30), (1, 8, 102), (1, 14, 103), (1, 20, 1), (1, 23, 2), (1, 27, 3), (1, 31, 16), (1, 34, 8), (1, 39, 12), (1, 42, 14), (1, 45, 13), (1, 48, 104), (1, 51, 15), (1, 54, 4), (1, 58, 5), (1, 62, 6), (1, 65, 10), (1, 68, 7)]
def KI : List (Nat × Nat × Int) := [(0, 114, 1103515245), (0, 115, 16777215), (1, 7, 2147483647)]
def KJ : List (Nat × Nat × Int) := [(1, 37, 3)]
def ATL : List FieldType := [.boolean, .int]
def cn (j : Nat) : String := if j = 0 then "EpidemicTrace" else "EpidemicTraceOwnLaw"
def own (m : Nat) : Nat := if m < 100 then 0 else 1
def ini (m : Nat) : Bool := m == 1
def rowsOf (m : Nat) : List Jvm.JX.Row := if m < 100 then prows.getD m [] else lrows.getD (m - 100) []
theorem hFL : ∀ t ∈ FL, t.2.2 ∈ FS ∧ Jvm.Cond.fieldLink (cn t.1) t.2.1 "EpidemicTrace" (fn t.2.2).1 (fn t.2.2).2 ∈ tables_1 := (faS ⟨by decide, (List.mem_of_getElem? (i := 18) rfl)⟩ (faS ⟨by decide, (List.mem_of_getElem? (i := 20) rfl)⟩ (faS ⟨by decide, (List.mem_of_getElem? (i := 22) rfl)⟩ (faS ⟨by decide, (List.mem_of_getElem? (i := 25) rfl)⟩ (faS ⟨by decide, (List.mem_of_getElem? (i := 27) rfl)⟩ (faS ⟨by decide, (List.mem_of_getElem? (i := 29) rfl)⟩ (faS ⟨by decide, (List.mem_of_getElem? (i := 31) rfl)⟩ (faS ⟨by decide, (List.mem_of_getElem? (i := 33) rfl)⟩ (faS ⟨by decide, (List.mem_of_getElem? (i := 35) rfl)⟩ (faS ⟨by decide, (List.mem_of_getElem? (i := 37) rfl)⟩ (faS ⟨by decide, (List.mem_of_getElem? (i := 39) rfl)⟩ (faS ⟨by decide, (List.mem_of_getElem? (i := 41) rfl)⟩ (faS ⟨by decide, (List.mem_of_getElem? (i := 43) rfl)⟩ (faS ⟨by decide, (List.mem_of_getElem? (i := 45) rfl)⟩ (faS ⟨by decide, (List.mem_of_getElem? (i := 51) rfl)⟩ (faS ⟨by decide, (List.mem_of_getElem? (i := 53) rfl)⟩ (faS ⟨by decide, (List.mem_of_getElem? (i := 55) rfl)⟩ (faS ⟨by decide, (List.mem_of_getElem? (i := 57) rfl)⟩ (faS ⟨by decide, (List.mem_of_getElem? (i := 59) rfl)⟩ (faS ⟨by decide, (List.mem_of_getElem? (i := 61) rfl)⟩ (faS ⟨by decide, (List.mem_of_getElem? (i := 63) rfl)⟩ (faS ⟨by decide, (List.mem_of_getElem? (i := 65) rfl)⟩ (faS ⟨by decide, (List.mem_of_getElem? (i := 67) rfl)⟩ (faS ⟨by decide, (List.mem_of_getElem? (i := 69) rfl)⟩ fa0))))))))))))))))))))))))
theorem hWF : ∀ k ∈ WF, Jvm.Cond.lays "EpidemicTrace" "EpidemicTrace" (fn k).1 (fn k).2 ∈ tables_1 := (faS (List.mem_of_getElem? (i := 52) rfl) (faS (List.mem_of_getElem? (i := 54) rfl) (faS (List.mem_of_getElem? (i := 56) rfl) (faS (List.mem_of_getElem? (i := 58) rfl) (faS (List.mem_of_getElem? (i := 60) rfl) (faS (List.mem_of_getElem? (i := 62) rfl) (faS (List.mem_of_getElem? (i := 64) rfl) (faS (List.mem_of_getElem? (i := 66) rfl) (faS (List.mem_of_getElem? (i := 68) rfl) (faS (List.mem_of_getElem? (i := 70) rfl) fa0))))))))))
theorem hML : ∀ t ∈ ML, t.2.2 ∈ RL ∧ Jvm.Cond.methodLink (cn t.1) t.2.1 (nm t.2.2) ∈ tables_1 := (faS ⟨by decide, (List.mem_of_getElem? (i := 47) rfl)⟩ (faS ⟨by decide, (List.mem_of_getElem? (i := 99) rfl)⟩ (faS ⟨by decide, (List.mem_of_getElem? (i := 134) rfl)⟩ (faS ⟨by decide, (List.mem_of_getElem? (i := 156) rfl)⟩ (faS ⟨by decide, (List.mem_of_getElem? (i := 86) rfl)⟩ (faS ⟨by decide, (List.mem_of_getElem? (i := 90) rfl)⟩ (faS ⟨by decide, (List.mem_of_getElem? (i := 160) rfl)⟩ (faS ⟨by decide, (List.mem_of_getElem? (i := 164) rfl)⟩ (faS ⟨by decide, (List.mem_of_getElem? (i := 172) rfl)⟩ (faS ⟨by decide, (List.mem_of_getElem? (i := 176) rfl)⟩ (faS ⟨by decide, (List.mem_of_getElem? (i := 180) rfl)⟩ (faS ⟨by decide, (List.mem_of_getElem? (i := 168) rfl)⟩ (faS ⟨by decide, (List.mem_of_getElem? (i := 188) rfl)⟩ (faS ⟨by decide, (List.mem_of_getElem? (i := 192) rfl)⟩ (faS ⟨by decide, (List.mem_of_getElem? (i := 184) rfl)⟩ (faS ⟨by decide, (List.mem_of_getElem? (i := 198) rfl)⟩ (faS ⟨by decide, (List.mem_of_getElem? (i := 0) rfl)⟩ (faS ⟨by decide, (List.mem_of_getElem? (i := 4) rfl)⟩ (faS ⟨by decide, (List.mem_of_getElem? (i := 11) rfl)⟩ (faS ⟨by decide, (List.mem_of_getElem? (i := 71) rfl)⟩ (faS ⟨by decide, (List.mem_of_getElem? (i := 76) rfl)⟩ (faS ⟨by decide, (List.mem_of_getElem? (i := 81) rfl)⟩ (faS ⟨by decide, (List.mem_of_getElem? (i := 94) rfl)⟩ (faS ⟨by decide, (List.mem_of_getElem? (i := 104) rfl)⟩ (faS ⟨by decide, (List.mem_of_getElem? (i := 109) rfl)⟩ (faS ⟨by decide, (List.mem_of_getElem? (i := 114) rfl)⟩ (faS ⟨by decide, (List.mem_of_getElem? (i := 138) rfl)⟩ (faS ⟨by decide, (List.mem_of_getElem? (i := 119) rfl)⟩ (faS ⟨by decide, (List.mem_of_getElem? (i := 129) rfl)⟩ (faS ⟨by decide, (List.mem_of_getElem? (i := 124) rfl)⟩ (faS ⟨by decide, (List.mem_of_getElem? (i := 141) rfl)⟩ (faS ⟨by decide, (List.mem_of_getElem? (i := 146) rfl)⟩ (faS ⟨by decide, (List.mem_of_getElem? (i := 151) rfl)⟩ fa0)))))))))))))))))))))))))))))))))
theorem hKI : ∀ t ∈ KI, Jvm.Cond.constant (cn t.1) t.2.1 (Int32.ofInt t.2.2) ∈ tables_1 := (faS (List.mem_of_getElem? (i := 196) rfl) (faS (List.mem_of_getElem? (i := 197) rfl) (faS (List.mem_of_getElem? (i := 7) rfl) fa0)))
theorem hKJ : ∀ t ∈ KJ, Jvm.Cond.constantLong (cn t.1) t.2.1 (Int64.ofInt t.2.2) ∈ tables_1 := (faS (List.mem_of_getElem? (i := 103) rfl) fa0)
theorem hAT : ∀ t ∈ ATL, Jvm.Cond.arrayClass t ∈ tables_1 := (faS (List.mem_of_getElem? (i := 24) rfl) (faS (List.mem_of_getElem? (i := 17) rfl) fa0))
theorem hrows : RL.all (fun m => (rowsOf m).all (rowOne FL ML KI KJ ATL WF 24 18 bt own ini m)) = true := by decide +kernel
theorem cal1 : CalOk (pj lw) tables_1 "EpidemicTrace" nm bt 1 := ⟨(List.mem_of_getElem? (i := 13) rfl), (List.mem_of_getElem? (i := 10) rfl), ⟨[.int, .int, .int, .int], none, by decide +kernel, rfl⟩, fun h => absurd h (by decide), fun _ => ⟨rfl, (List.mem_of_getElem? (i := 12) rfl)⟩, fun h => absurd h (by decide), fun h => absurd h (by decide), fun _ => ⟨rfl, rfl⟩⟩
theorem cal2 : CalOk (pj lw) tables_1 "EpidemicTrace" nm bt 2 := ⟨(List.mem_of_getElem? (i := 75) rfl), (List.mem_of_getElem? (i := 10) rfl), ⟨[.int], none, by decide +kernel, rfl⟩, fun h => absurd h (by decide), fun _ => ⟨rfl, (List.mem_of_getElem? (i := 73) rfl)⟩, fun _ => ⟨(List.mem_of_getElem? (i := 72) rfl), (List.mem_of_getElem? (i := 74) rfl)⟩, fun h => absurd h (by decide), fun h => absurd h (by decide)⟩
theorem cal3 : CalOk (pj lw) tables_1 "EpidemicTrace" nm bt 3 := ⟨(List.mem_of_getElem? (i := 80) rfl), (List.mem_of_getElem? (i := 10) rfl), ⟨[.int], some .int, by decide +kernel, rfl⟩, fun h => absurd h (by decide), fun _ => ⟨rfl, (List.mem_of_getElem? (i := 78) rfl)⟩, fun _ => ⟨(List.mem_of_getElem? (i := 77) rfl), (List.mem_of_getElem? (i := 79) rfl)⟩, fun h => absurd h (by decide), fun h => absurd h (by decide)⟩
theorem cal4 : CalOk (pj lw) tables_1 "EpidemicTrace" nm bt 4 := ⟨(List.mem_of_getElem? (i := 133) rfl), (List.mem_of_getElem? (i := 10) rfl), ⟨[.int, .int, .int], some .int, by decide +kernel, rfl⟩, fun h => absurd h (by decide), fun _ => ⟨rfl, (List.mem_of_getElem? (i := 131) rfl)⟩, fun _ => ⟨(List.mem_of_getElem? (i := 130) rfl), (List.mem_of_getElem? (i := 132) rfl)⟩, fun h => absurd h (by decide), fun h => absurd h (by decide)⟩
theorem cal5 : CalOk (pj lw) tables_1 "EpidemicTrace" nm bt 5 := ⟨(List.mem_of_getElem? (i := 128) rfl), (List.mem_of_getElem? (i := 10) rfl), ⟨[.int], some .boolean, by decide +kernel, rfl⟩, fun h => absurd h (by decide), fun _ => ⟨rfl, (List.mem_of_getElem? (i := 126) rfl)⟩, fun _ => ⟨(List.mem_of_getElem? (i := 125) rfl), (List.mem_of_getElem? (i := 127) rfl)⟩, fun h => absurd h (by decide), fun h => absurd h (by decide)⟩
theorem cal6 : CalOk (pj lw) tables_1 "EpidemicTrace" nm bt 6 := ⟨(List.mem_of_getElem? (i := 145) rfl), (List.mem_of_getElem? (i := 10) rfl), ⟨[.int], some .boolean, by decide +kernel, rfl⟩, fun h => absurd h (by decide), fun _ => ⟨rfl, (List.mem_of_getElem? (i := 143) rfl)⟩, fun _ => ⟨(List.mem_of_getElem? (i := 142) rfl), (List.mem_of_getElem? (i := 144) rfl)⟩, fun h => absurd h (by decide), fun h => absurd h (by decide)⟩
theorem cal7 : CalOk (pj lw) tables_1 "EpidemicTrace" nm bt 7 := ⟨(List.mem_of_getElem? (i := 155) rfl), (List.mem_of_getElem? (i := 10) rfl), ⟨[.int], some .int, by decide +kernel, rfl⟩, fun h => absurd h (by decide), fun _ => ⟨rfl, (List.mem_of_getElem? (i := 153) rfl)⟩, fun _ => ⟨(List.mem_of_getElem? (i := 152) rfl), (List.mem_of_getElem? (i := 154) rfl)⟩, fun h => absurd h (by decide), fun h => absurd h (by decide)⟩
theorem cal8 : CalOk (pj lw) tables_1 "EpidemicTrace" nm bt 8 := ⟨(List.mem_of_getElem? (i := 98) rfl), (List.mem_of_getElem? (i := 10) rfl), ⟨[.int], some .int, by decide +kernel, rfl⟩, fun h => absurd h (by decide), fun _ => ⟨rfl, (List.mem_of_getElem? (i := 96) rfl)⟩, fun _ => ⟨(List.mem_of_getElem? (i := 95) rfl), (List.mem_of_getElem? (i := 97) rfl)⟩, fun h => absurd h (by decide), fun h => absurd h (by decide)⟩
theorem cal10 : CalOk (pj lw) tables_1 "EpidemicTrace" nm bt 10 := ⟨(List.mem_of_getElem? (i := 150) rfl), (List.mem_of_getElem? (i := 10) rfl), ⟨[.int], some .int, by decide +kernel, rfl⟩, fun h => absurd h (by decide), fun _ => ⟨rfl, (List.mem_of_getElem? (i := 148) rfl)⟩, fun _ => ⟨(List.mem_of_getElem? (i := 147) rfl), (List.mem_of_getElem? (i := 149) rfl)⟩, fun h => absurd h (by decide), fun h => absurd h (by decide)⟩
theorem cal12 : CalOk (pj lw) tables_1 "EpidemicTrace" nm bt 12 := ⟨(List.mem_of_getElem? (i := 108) rfl), (List.mem_of_getElem? (i := 10) rfl), ⟨[.int], some .int, by decide +kernel, rfl⟩, fun h => absurd h (by decide), fun _ => ⟨rfl, (List.mem_of_getElem? (i := 106) rfl)⟩, fun _ => ⟨(List.mem_of_getElem? (i := 105) rfl), (List.mem_of_getElem? (i := 107) rfl)⟩, fun h => absurd h (by decide), fun h => absurd h (by decide)⟩
theorem cal13 : CalOk (pj lw) tables_1 "EpidemicTrace" nm bt 13 := ⟨(List.mem_of_getElem? (i := 118) rfl), (List.mem_of_getElem? (i := 10) rfl), ⟨[.int], some .int, by decide +kernel, rfl⟩, fun h => absurd h (by decide), fun _ => ⟨rfl, (List.mem_of_getElem? (i := 116) rfl)⟩, fun _ => ⟨(List.mem_of_getElem? (i := 115) rfl), (List.mem_of_getElem? (i := 117) rfl)⟩, fun h => absurd h (by decide), fun h => absurd h (by decide)⟩
theorem cal14 : CalOk (pj lw) tables_1 "EpidemicTrace" nm bt 14 := ⟨(List.mem_of_getElem? (i := 113) rfl), (List.mem_of_getElem? (i := 10) rfl), ⟨[.int], some .int, by decide +kernel, rfl⟩, fun h => absurd h (by decide), fun _ => ⟨rfl, (List.mem_of_getElem? (i := 111) rfl)⟩, fun _ => ⟨(List.mem_of_getElem? (i := 110) rfl), (List.mem_of_getElem? (i := 112) rfl)⟩, fun h => absurd h (by decide), fun h => absurd h (by decide)⟩
theorem cal15 : CalOk (pj lw) tables_1 "EpidemicTrace" nm bt 15 := ⟨(List.mem_of_getElem? (i := 123) rfl), (List.mem_of_getElem? (i := 10) rfl), ⟨[.int], some .int, by decide +kernel, rfl⟩, fun h => absurd h (by decide), fun _ => ⟨rfl, (List.mem_of_getElem? (i := 121) rfl)⟩, fun _ => ⟨(List.mem_of_getElem? (i := 120) rfl), (List.mem_of_getElem? (i := 122) rfl)⟩, fun h => absurd h (by decide), fun h => absurd h (by decide)⟩
theorem cal16 : CalOk (pj lw) tables_1 "EpidemicTrace" nm bt 16 := ⟨(List.mem_of_getElem? (i := 85) rfl), (List.mem_of_getElem? (i := 10) rfl), ⟨[.int], some .int, by decide +kernel, rfl⟩, fun h => absurd h (by decide), fun _ => ⟨rfl, (List.mem_of_getElem? (i := 83) rfl)⟩, fun _ => ⟨(List.mem_of_getElem? (i := 82) rfl), (List.mem_of_getElem? (i := 84) rfl)⟩, fun h => absurd h (by decide), fun h => absurd h (by decide)⟩
theorem cal17 : CalOk (pj lw) tables_1 "EpidemicTrace" nm bt 17 := ⟨(List.mem_of_getElem? (i := 50) rfl), (List.mem_of_getElem? (i := 10) rfl), ⟨[.int, .int, .int], some .int, by decide +kernel, rfl⟩, fun h => absurd h (by decide), fun _ => ⟨rfl, (List.mem_of_getElem? (i := 48) rfl)⟩, fun h => absurd h (by decide), fun _ => (List.mem_of_getElem? (i := 49) rfl), fun h => absurd h (by decide)⟩
theorem cal18 : CalOk (pj lw) tables_1 "EpidemicTrace" nm bt 18 := ⟨(List.mem_of_getElem? (i := 102) rfl), (List.mem_of_getElem? (i := 10) rfl), ⟨[.int], some .boolean, by decide +kernel, rfl⟩, fun h => absurd h (by decide), fun _ => ⟨rfl, (List.mem_of_getElem? (i := 100) rfl)⟩, fun h => absurd h (by decide), fun _ => (List.mem_of_getElem? (i := 101) rfl), fun h => absurd h (by decide)⟩
theorem cal19 : CalOk (pj lw) tables_1 "EpidemicTrace" nm bt 19 := ⟨(List.mem_of_getElem? (i := 195) rfl), (List.mem_of_getElem? (i := 10) rfl), ⟨[], some .int, by decide +kernel, rfl⟩, fun h => absurd h (by decide), fun _ => ⟨rfl, (List.mem_of_getElem? (i := 193) rfl)⟩, fun h => absurd h (by decide), fun _ => (List.mem_of_getElem? (i := 194) rfl), fun h => absurd h (by decide)⟩
theorem cal20 : CalOk (pj lw) tables_1 "EpidemicTrace" nm bt 20 := ⟨(List.mem_of_getElem? (i := 137) rfl), (List.mem_of_getElem? (i := 10) rfl), ⟨[.int, .int], some .boolean, by decide +kernel, rfl⟩, fun h => absurd h (by decide), fun _ => ⟨rfl, (List.mem_of_getElem? (i := 135) rfl)⟩, fun h => absurd h (by decide), fun _ => (List.mem_of_getElem? (i := 136) rfl), fun h => absurd h (by decide)⟩
theorem cal21 : CalOk (pj lw) tables_1 "EpidemicTrace" nm bt 21 := ⟨(List.mem_of_getElem? (i := 159) rfl), (List.mem_of_getElem? (i := 10) rfl), ⟨[], none, by decide +kernel, rfl⟩, fun h => absurd h (by decide), fun _ => ⟨rfl, (List.mem_of_getElem? (i := 157) rfl)⟩, fun h => absurd h (by decide), fun _ => (List.mem_of_getElem? (i := 158) rfl), fun h => absurd h (by decide)⟩
theorem cal22 : CalOk (pj lw) tables_1 "EpidemicTrace" nm bt 22 := ⟨(List.mem_of_getElem? (i := 163) rfl), (List.mem_of_getElem? (i := 10) rfl), ⟨[], none, by decide +kernel, rfl⟩, fun h => absurd h (by decide), fun _ => ⟨rfl, (List.mem_of_getElem? (i := 161) rfl)⟩, fun h => absurd h (by decide), fun _ => (List.mem_of_getElem? (i := 162) rfl), fun h => absurd h (by decide)⟩
theorem cal23 : CalOk (pj lw) tables_1 "EpidemicTrace" nm bt 23 := ⟨(List.mem_of_getElem? (i := 171) rfl), (List.mem_of_getElem? (i := 10) rfl), ⟨[.int, .int], some .boolean, by decide +kernel, rfl⟩, fun h => absurd h (by decide), fun _ => ⟨rfl, (List.mem_of_getElem? (i := 169) rfl)⟩, fun h => absurd h (by decide), fun _ => (List.mem_of_getElem? (i := 170) rfl), fun h => absurd h (by decide)⟩
theorem cal24 : CalOk (pj lw) tables_1 "EpidemicTrace" nm bt 24 := ⟨(List.mem_of_getElem? (i := 167) rfl), (List.mem_of_getElem? (i := 10) rfl), ⟨[], none, by decide +kernel, rfl⟩, fun h => absurd h (by decide), fun _ => ⟨rfl, (List.mem_of_getElem? (i := 165) rfl)⟩, fun h => absurd h (by decide), fun _ => (List.mem_of_getElem? (i := 166) rfl), fun h => absurd h (by decide)⟩
theorem cal25 : CalOk (pj lw) tables_1 "EpidemicTrace" nm bt 25 := ⟨(List.mem_of_getElem? (i := 191) rfl), (List.mem_of_getElem? (i := 10) rfl), ⟨[.int, .int, .int], none, by decide +kernel, rfl⟩, fun h => absurd h (by decide), fun _ => ⟨rfl, (List.mem_of_getElem? (i := 189) rfl)⟩, fun h => absurd h (by decide), fun _ => (List.mem_of_getElem? (i := 190) rfl), fun h => absurd h (by decide)⟩
theorem cal26 : CalOk (pj lw) tables_1 "EpidemicTrace" nm bt 26 := ⟨(List.mem_of_getElem? (i := 175) rfl), (List.mem_of_getElem? (i := 10) rfl), ⟨[], none, by decide +kernel, rfl⟩, fun h => absurd h (by decide), fun _ => ⟨rfl, (List.mem_of_getElem? (i := 173) rfl)⟩, fun h => absurd h (by decide), fun _ => (List.mem_of_getElem? (i := 174) rfl), fun h => absurd h (by decide)⟩
theorem cal27 : CalOk (pj lw) tables_1 "EpidemicTrace" nm bt 27 := ⟨(List.mem_of_getElem? (i := 179) rfl), (List.mem_of_getElem? (i := 10) rfl), ⟨[], none, by decide +kernel, rfl⟩, fun h => absurd h (by decide), fun _ => ⟨rfl, (List.mem_of_getElem? (i := 177) rfl)⟩, fun h => absurd h (by decide), fun _ => (List.mem_of_getElem? (i := 178) rfl), fun h => absurd h (by decide)⟩
theorem cal28 : CalOk (pj lw) tables_1 "EpidemicTrace" nm bt 28 := ⟨(List.mem_of_getElem? (i := 183) rfl), (List.mem_of_getElem? (i := 10) rfl), ⟨[], none, by decide +kernel, rfl⟩, fun h => absurd h (by decide), fun _ => ⟨rfl, (List.mem_of_getElem? (i := 181) rfl)⟩, fun h => absurd h (by decide), fun _ => (List.mem_of_getElem? (i := 182) rfl), fun h => absurd h (by decide)⟩
theorem cal29 : CalOk (pj lw) tables_1 "EpidemicTrace" nm bt 29 := ⟨(List.mem_of_getElem? (i := 187) rfl), (List.mem_of_getElem? (i := 10) rfl), ⟨[.int], none, by decide +kernel, rfl⟩, fun h => absurd h (by decide), fun _ => ⟨rfl, (List.mem_of_getElem? (i := 185) rfl)⟩, fun h => absurd h (by decide), fun _ => (List.mem_of_getElem? (i := 186) rfl), fun h => absurd h (by decide)⟩
theorem cal30 : CalOk (pj lw) tables_1 "EpidemicTrace" nm bt 30 := ⟨(List.mem_of_getElem? (i := 201) rfl), (List.mem_of_getElem? (i := 10) rfl), ⟨[.int], none, by decide +kernel, rfl⟩, fun h => absurd h (by decide), fun _ => ⟨rfl, (List.mem_of_getElem? (i := 199) rfl)⟩, fun h => absurd h (by decide), fun _ => (List.mem_of_getElem? (i := 200) rfl), fun h => absurd h (by decide)⟩
theorem cal31 : CalOk (pj lw) tables_1 "EpidemicTrace" nm bt 31 := ⟨(List.mem_of_getElem? (i := 89) rfl), (List.mem_of_getElem? (i := 10) rfl), ⟨[.int], some .int, by decide +kernel, rfl⟩, fun h => absurd h (by decide), fun _ => ⟨rfl, (List.mem_of_getElem? (i := 87) rfl)⟩, fun h => absurd h (by decide), fun _ => (List.mem_of_getElem? (i := 88) rfl), fun h => absurd h (by decide)⟩
theorem cal34 : CalOk (pj lw) tables_1 "EpidemicTrace" nm bt 34 := ⟨(List.mem_of_getElem? (i := 93) rfl), (List.mem_of_getElem? (i := 10) rfl), ⟨[], some .int, by decide +kernel, rfl⟩, fun h => absurd h (by decide), fun _ => ⟨rfl, (List.mem_of_getElem? (i := 91) rfl)⟩, fun h => absurd h (by decide), fun _ => (List.mem_of_getElem? (i := 92) rfl), fun h => absurd h (by decide)⟩
theorem cal102 : CalOk (pj lw) tables_1 "EpidemicTrace" nm bt 102 := ⟨(List.mem_of_getElem? (i := 3) rfl), (List.mem_of_getElem? (i := 2) rfl), ⟨[.array .int, .int], some .int, by decide +kernel, rfl⟩, fun _ => (List.mem_of_getElem? (i := 1) rfl), fun h => absurd rfl h, fun h => absurd h (by decide), fun h => absurd h (by decide), fun h => absurd h (by decide)⟩
theorem cal103 : CalOk (pj lw) tables_1 "EpidemicTrace" nm bt 103 := ⟨(List.mem_of_getElem? (i := 6) rfl), (List.mem_of_getElem? (i := 2) rfl), ⟨[.int, .int], some .int, by decide +kernel, rfl⟩, fun _ => (List.mem_of_getElem? (i := 5) rfl), fun h => absurd rfl h, fun h => absurd h (by decide), fun h => absurd h (by decide), fun h => absurd h (by decide)⟩
theorem cal104 : CalOk (pj lw) tables_1 "EpidemicTrace" nm bt 104 := ⟨(List.mem_of_getElem? (i := 140) rfl), (List.mem_of_getElem? (i := 2) rfl), ⟨[.int, .int], some .int, by decide +kernel, rfl⟩, fun _ => (List.mem_of_getElem? (i := 139) rfl), fun h => absurd rfl h, fun h => absurd h (by decide), fun h => absurd h (by decide), fun h => absurd h (by decide)⟩
theorem hcal : ∀ m ∈ RL, m ≠ 100 → CalOk (pj lw) tables_1 "EpidemicTrace" nm bt m := (faS (fun _ => cal1) (faS (fun _ => cal2) (faS (fun _ => cal3) (faS (fun _ => cal4) (faS (fun _ => cal5) (faS (fun _ => cal6) (faS (fun _ => cal7) (faS (fun _ => cal8) (faS (fun _ => cal10) (faS (fun _ => cal12) (faS (fun _ => cal13) (faS (fun _ => cal14) (faS (fun _ => cal15) (faS (fun _ => cal16) (faS (fun _ => cal17) (faS (fun _ => cal18) (faS (fun _ => cal19) (faS (fun _ => cal20) (faS (fun _ => cal21) (faS (fun _ => cal22) (faS (fun _ => cal23) (faS (fun _ => cal24) (faS (fun _ => cal25) (faS (fun _ => cal26) (faS (fun _ => cal27) (faS (fun _ => cal28) (faS (fun _ => cal29) (faS (fun _ => cal30) (faS (fun _ => cal31) (faS (fun _ => cal34) (faS (fun h => absurd rfl h) (faS (fun _ => cal102) (faS (fun _ => cal103) (faS (fun _ => cal104) fa0))))))))))))))))))))))))))))))))))
theorem hfld : ∀ k ∈ FS, parseFieldDescriptor (fn k).2 = some ((pj lw).2.2.1 k) ∧ (Jvm.Cond.lays "EpidemicTrace" "EpidemicTrace" (fn k).1 (fn k).2 ∈ tables_1 ∨ Jvm.Cond.laysFinal "EpidemicTrace" "EpidemicTrace" (fn k).1 (fn k).2 ∈ tables_1) := (faS ⟨by decide +kernel, Or.inl (List.mem_of_getElem? (i := 52) rfl)⟩ (faS ⟨by decide +kernel, Or.inl (List.mem_of_getElem? (i := 54) rfl)⟩ (faS ⟨by decide +kernel, Or.inl (List.mem_of_getElem? (i := 56) rfl)⟩ (faS ⟨by decide +kernel, Or.inl (List.mem_of_getElem? (i := 58) rfl)⟩ (faS ⟨by decide +kernel, Or.inr (List.mem_of_getElem? (i := 19) rfl)⟩ (faS ⟨by decide +kernel, Or.inr (List.mem_of_getElem? (i := 21) rfl)⟩ (faS ⟨by decide +kernel, Or.inr (List.mem_of_getElem? (i := 23) rfl)⟩ (faS ⟨by decide +kernel, Or.inr (List.mem_of_getElem? (i := 26) rfl)⟩ (faS ⟨by decide +kernel, Or.inr (List.mem_of_getElem? (i := 28) rfl)⟩ (faS ⟨by decide +kernel, Or.inr (List.mem_of_getElem? (i := 30) rfl)⟩ (faS ⟨by decide +kernel, Or.inr (List.mem_of_getElem? (i := 32) rfl)⟩ (faS ⟨by decide +kernel, Or.inr (List.mem_of_getElem? (i := 34) rfl)⟩ (faS ⟨by decide +kernel, Or.inr (List.mem_of_getElem? (i := 36) rfl)⟩ (faS ⟨by decide +kernel, Or.inr (List.mem_of_getElem? (i := 38) rfl)⟩ (faS ⟨by decide +kernel, Or.inr (List.mem_of_getElem? (i := 40) rfl)⟩ (faS ⟨by decide +kernel, Or.inr (List.mem_of_getElem? (i := 42) rfl)⟩ (faS ⟨by decide +kernel, Or.inr (List.mem_of_getElem? (i := 44) rfl)⟩ (faS ⟨by decide +kernel, Or.inr (List.mem_of_getElem? (i := 46) rfl)⟩ (faS ⟨by decide +kernel, Or.inl (List.mem_of_getElem? (i := 60) rfl)⟩ (faS ⟨by decide +kernel, Or.inl (List.mem_of_getElem? (i := 62) rfl)⟩ (faS ⟨by decide +kernel, Or.inl (List.mem_of_getElem? (i := 64) rfl)⟩ (faS ⟨by decide +kernel, Or.inl (List.mem_of_getElem? (i := 66) rfl)⟩ (faS ⟨by decide +kernel, Or.inl (List.mem_of_getElem? (i := 68) rfl)⟩ (faS ⟨by decide +kernel, Or.inl (List.mem_of_getElem? (i := 70) rfl)⟩ fa0))))))))))))))))))))))))
theorem good : Good (pj lw) tables_1 "EpidemicTrace" fn FS 24 nm bt RL 100 := by
  refine ⟨(List.mem_of_getElem? (i := 9) rfl), (List.mem_of_getElem? (i := 10) rfl), hfld, by decide +kernel, fun m hm => ?_, hcal, fun m _ pc ins len aux _ _ => by cases ins <;> rfl⟩
  have hpl : plainName "EpidemicTrace" = true ∧ plainName "EpidemicTraceOwnLaw" = true := ⟨by first | (simp [plainName, overriddenIn]; done) | decide +kernel, by first | (simp [plainName, overriddenIn]; done) | decide +kernel⟩
  have hcn : ∀ m ∈ RL, (nm m).cls = cn (own m) := by decide +kernel
  have hin : ∀ m ∈ RL, ini m = true → (nm m).cls = "EpidemicTrace" ∧ (nm m).name = "<init>" := by decide +kernel
  have hor : (nm m).cls = "EpidemicTrace" ∨ (nm m).cls = "EpidemicTraceOwnLaw" := by rw [hcn m hm]; unfold cn; split <;> simp
  refine ⟨by rcases hor with h | h <;> rw [h] <;> simp [hpl], by rcases hor with h | h <;> rw [h] <;> decide, fun pc ins len aux h => ?_⟩
  have hmem : (pc, ins, len, aux) ∈ rowsOf m := by
    unfold rowsOf
    by_cases g : m < 100
    · rw [if_pos g]; exact lookup_mem (by simpa [pj, g] using h)
    · rw [if_neg g]; exact lookup_mem (by simpa [pj, lw, g] using h)
  have hrow := List.all_eq_true.mp (List.all_eq_true.mp hrows m hm) _ hmem
  simp only [rowOne, Bool.and_eq_true, decide_eq_true_eq] at hrow
  exact ⟨hrow.1.1, hrow.1.2, row_ok (hcn m hm) (hin m hm) hFL hWF hML hKI hKJ hAT (List.mem_of_getElem? (i := 8) rfl) ⟨(List.mem_of_getElem? (i := 14) rfl), (List.mem_of_getElem? (i := 15) rfl), (List.mem_of_getElem? (i := 16) rfl)⟩ hrow.2⟩
set_option maxRecDepth 65536 in
set_option maxHeartbeats 40000000 in
theorem comes_1 {Post : Tables → Env → Array Value → State → Outcome → State → Prop} (hpost : ∀ tb e args s v u, (limb_1_1.after args s (.returned v) u = true ∧ limb_1_2.after args s (.returned v) u = true ∧ True) → FrameEnd s (.returned v) u (Jvm.fieldLocs frame_1_writes args s ++ Jvm.arrayLocs frame_1_arrays args s ++ Jvm.staticLocs frame_1_statics s) 40 4480 → Post tb e args s (.returned v) u) :
    ArmFor flags0 classFile x code maxLocals ret World_1 tables_1 room_1 Calls_1 rest_1 Pre_1 Post := by
  intro l hfl _ _ p e ha hc hk s m args below hf hA hF happ hP
  obtain ⟨hcalls, hrest, hpre⟩ := hP
  obtain ⟨-, -, -, hnamed, -, -, -, hat⟩ := (Spec.applies_iff hf).mp happ
  obtain ⟨hg, hn⟩ := and_e (Cond.before_iff.mp (show (Jvm.Cond.and given_1 narrow_1).before args s = true from hpre))
  have hw := fun d (hd : d ∈ tables_1) => atoms_spec (ws := Jvm.Cond.code x code maxLocals ret :: tables_1) hat d (List.mem_cons_of_mem _ hd)
  obtain ⟨g0, r0⟩ := and_e hg
  obtain ⟨w0, rfl⟩ : ∃ w0 : Value, args = #[w0] := by
    have hs : args.size = 1 := by simpa [Cond.value, given_1] using g0
    obtain ⟨L⟩ := args
    match L, hs with
    | [w0], _ => exact ⟨w0, rfl⟩
  have hfit : Fit s := fun {y c} hc i hi => by
    obtain ⟨ha, rfl⟩ := Array.getElem?_eq_some_iff.mp hc
    have q := List.all_eq_true.mp ((Array.all_eq_true_iff_forall_mem.mp hF) _ (Array.getElem_mem ha)) i (List.mem_range.mpr hi)
    simpa [Array.getElem?_eq_getElem hi] using q
  obtain ⟨n1, n2⟩ := and_e (show (Jvm.Cond.and (Jvm.Cond.arrayOf (Jvm.Term.arg 0) .int) (Jvm.Cond.le (Jvm.Term.length (Jvm.Term.arg 0)) (Jvm.Term.int 260))).value #[w0] s none s [] = some true from hn)
  obtain ⟨a, ea⟩ := arr_v n1
  obtain rfl : w0 = .ref a := Option.some.inj ea
  obtain ⟨cl, A⟩ := Arr.start ea n1
  have hlen : cl.slots.size < 2 ^ 31 ∧ cl.slots.size ≤ 260 := by
    obtain ⟨x, y, h1, h2, -, -⟩ := cmp_v (Or.inr (Or.inr n2))
    have hA0 := A.fin (Vm.Alike.refl _)
    by_cases hs : cl.slots.size < 2 ^ 31
    · refine ⟨hs, ?_⟩
      have e1 := len_f (args := #[.ref a]) (first := s) (o := none) (idx := []) ea hA0 hs
      have e2 : (Term.int (260 : Int32)).eval #[.ref a] s none [] s = some (.int 260) := rfl
      simp only [Cond.value, e1, e2] at n2
      have n3 : cl.slots.size.toInt32 ≤ (260 : Int32) := by simpa using n2
      rw [Int32.le_iff_toInt_le, len_toInt hs] at n3
      have : ((260 : Int32)).toInt = 260 := by decide
      omega
    · exfalso; simp [Term.eval, hA0, hs, ea] at h1
  obtain ⟨f, hR⟩ := rel_H1 (C := "EpidemicTrace") (fn := fn) (F := FS) hfit A hlen.1
  obtain ⟨n, o, h1, h2, h3, _, L, rfl, ⟨N, H2, rfl⟩, hq⟩ := law_met (l := l) (Z := s) (a0 := _) (n0 := s.heap.size) good hw (as := [.ref a]) (h := s.heap) tables_1 (by decide) (by simp [Sym.laidSlots, Value.category]; decide) hR (law_ok s.heap.size a cl.slots.size f A.lt hlen.2) p e ha hc hk s m _ below hf ((Spec.applies_iff_loose hf).mp happ).1 ⟨rfl, State.Warmed39.refl s, rfl⟩ trivial
  exact ⟨n, _, h1, h2, h3, hpost _ _ _ _ _ _ ⟨Cond.after_iff.mpr rfl, Cond.after_iff.mpr (eq_i res_at (Term.int_eval (1)) rfl), trivial⟩ ⟨hq.1, hq.2.1, (hq.2.2.sift fun y hy => Or.inr (N y hy)).mono (by decide) (by decide)⟩⟩
theorem main_1_1 : Claimed_1_1 := comes_1 fun _ _ _ _ _ _ h hF => ⟨h.1, hF⟩
theorem main_1_2 : Claimed_1_2 := comes_1 fun _ _ _ _ _ _ h hF => ⟨h.2.1, hF⟩
end Jvm.Pilot.@@N@@
namespace Jvm.Pilot.@@N@@
open Jvm Jvm.ClassFile Sem Op Lib Jvm.Free Jvm.Stand Jvm.Pilot.@@N@@.Jvm.D
/-! MADE BY PROGRAM (witnessworld.py) out of the Statement's table words and the real class files: 11 classes; the members and pool entries that the words name. The judged class is class 1, her method 4. -/
namespace start1
open Jvm.ClassFile
def u (s : String) : CpInfo := .utf8 (stringToUtf16 s)
/-- a pool by its gaps: so many unusable entries, then the entry; so many at the end -/
def gap : Nat → List CpInfo → List CpInfo
  | 0, r => r
  | n + 1, r => .unusable :: gap n r
def poolList (es : List (Nat × CpInfo)) (last : Nat) : List CpInfo := es.foldr (fun e r => gap e.1 (e.2 :: r)) (gap last [])
def pool (es : List (Nat × CpInfo)) (last : Nat) : Array CpInfo := ⟨poolList es last⟩
def fileOf (pool : Array CpInfo) (this : Nat) (attrs : Array Attribute := #[]) (ms : Array MethodInfo := #[]) (fl : Nat := 33) (sup : Nat := 0) (ifs : Array Nat := #[]) (fds : Array FieldInfo := #[]) : ClassFile where
  minorVersion := 0
  majorVersion := 65
  constantPool := pool
  accessFlags := fl
  thisClass := this
  superClass := sup
  interfaces := ifs
  fields := fds
  methods := ms
  attributes := attrs
def plain (name : String) (sup : Option ClassId) : Class where
  name := name
  kind := .ordinary
  loader := none
  accessFlags := 33
  super := sup
  interfaces := #[]
  cf := none
  fields := #[]
  methods := #[]
  instanceTypes := #[]
  staticTypes := #[]
  resolved := #[]
  callSites := []
  init := .initialized
  statics := none
  mirror := none

def pool0 : Array CpInfo := pool [(5, u "<init>"), (0, u "()V"), (1, .class_ 10), (1, u "java/lang/Object")] 113

def k0c0 : Code := { maxStack := 0, maxLocals := 1, code := object_method_1_code, exceptionTable := #[], attributes := #[] }
def k0m0 : Method := { name := "<init>", desc := "()V", sig := { parameters := [], returnType := none }, accessFlags := 1, code := some k0c0 }
/-- java/lang/Object -/
def k0 : Class := { plain "java/lang/Object" none with
  accessFlags := 33
  interfaces := #[]
  cf := some (fileOf pool0 8 #[] #[{ accessFlags := 1, nameIndex := 5, descriptorIndex := 6, attributes := #[] }] 33 0 #[] #[])
  fields := #[]
  methods := #[k0m0]
  instanceTypes := #[]
  staticTypes := #[]
  resolved := Array.replicate 124 none
  statics := none }

def pool1 : Array CpInfo := pool [(2, .class_ 4), (1, u "java/lang/Object"), (0, u "<init>"), (0, u "()V"), (0, .integer 2147483647), (0, .methodref 9 10), (0, .class_ 11), (0, .nameAndType 12 13), (0, u "EpidemicTraceOwnLaw"), (0, u "cell"), (0, u "([II)I"), (0, .methodref 9 15), (0, .nameAndType 16 17), (0, u "nn"), (0, u "(II)I"), (0, .class_ 19), (0, u "EpidemicTrace"), (0, .methodref 18 21), (0, .nameAndType 5 22), (0, u "(IIII)V"), (0, .methodref 18 24), (0, .nameAndType 25 26), (0, u "seedRandom"), (0, u "(I)V"), (0, .methodref 18 28), (0, .nameAndType 29 30), (0, u "setCapacity"), (0, u "(I)I"), (0, .methodref 18 32), (0, .nameAndType 33 30), (0, u "count"), (0, .methodref 18 35), (0, .nameAndType 36 30), (0, u "compartment"), (0, .long 3), (1, .methodref 18 40), (0, .nameAndType 41 30), (0, u "source"), (0, .methodref 18 43), (0, .nameAndType 44 30), (0, u "generation"), (0, .methodref 18 46), (0, .nameAndType 47 30), (0, u "infectionDay"), (0, .methodref 9 49), (0, .nameAndType 50 17), (0, u "bit"), (0, .methodref 18 52), (0, .nameAndType 53 30), (0, u "secondaryCases"), (0, .methodref 18 55), (0, .nameAndType 56 57), (0, u "addEdge"), (0, u "(III)I"), (0, .methodref 18 59), (0, .nameAndType 60 61), (0, u "infect"), (0, u "(I)Z"), (0, .methodref 18 63), (0, .nameAndType 64 61), (0, u "requestTest"), (0, .methodref 18 66), (0, .nameAndType 67 30), (0, u "quarantineLeft"), (0, .methodref 18 69), (0, .nameAndType 70 30), (0, u "run"), (3, u "law"), (0, u "([I)Z")] 4

def k1m0 : Method := { name := "<init>", desc := "()V", sig := { parameters := [], returnType := none }, accessFlags := 1, code := none }
def k1c1 : Code := { maxStack := 2, maxLocals := 2, code := method_2_code, exceptionTable := #[], attributes := #[] }
def k1m1 : Method := { name := "cell", desc := "([II)I", sig := { parameters := [(.array .int), .int], returnType := some .int }, accessFlags := 10, code := some k1c1 }
def k1c2 : Code := { maxStack := 2, maxLocals := 2, code := method_3_code, exceptionTable := #[], attributes := #[] }
def k1m2 : Method := { name := "nn", desc := "(II)I", sig := { parameters := [.int, .int], returnType := some .int }, accessFlags := 10, code := some k1c2 }
def k1c3 : Code := { maxStack := 2, maxLocals := 4, code := method_4_code, exceptionTable := #[], attributes := #[] }
def k1m3 : Method := { name := "bit", desc := "(II)I", sig := { parameters := [.int, .int], returnType := some .int }, accessFlags := 10, code := some k1c3 }
def k1c4 : Code := { maxStack := 8, maxLocals := 21, code := code, exceptionTable := #[], attributes := #[] }
def k1m4 : Method := { name := "law", desc := "([I)Z", sig := { parameters := [(.array .int)], returnType := some .boolean }, accessFlags := 9, code := some k1c4 }
/-- EpidemicTraceOwnLaw -/
def k1 : Class := { plain "EpidemicTraceOwnLaw" (some 0) with
  accessFlags := 49
  interfaces := #[]
  cf := some (fileOf pool1 9 #[] #[{ accessFlags := 1, nameIndex := 5, descriptorIndex := 6, attributes := #[] }, { accessFlags := 10, nameIndex := 12, descriptorIndex := 13, attributes := #[] }, { accessFlags := 10, nameIndex := 16, descriptorIndex := 17, attributes := #[] }, { accessFlags := 10, nameIndex := 50, descriptorIndex := 17, attributes := #[] }, { accessFlags := 9, nameIndex := 74, descriptorIndex := 75, attributes := #[] }] 49 2 #[] #[])
  fields := #[]
  methods := #[k1m0, k1m1, k1m2, k1m3, k1m4]
  instanceTypes := #[]
  staticTypes := #[]
  resolved := Array.replicate 80 none
  statics := none }

def pool2 : Array CpInfo := pool [(1, .methodref 2 3), (0, .class_ 4), (0, .nameAndType 5 6), (0, u "java/lang/Object"), (0, u "<init>"), (0, u "()V"), (0, .fieldref 8 9), (0, .class_ 10), (0, .nameAndType 11 12), (0, u "EpidemicTrace"), (0, u "comp"), (0, u "[I"), (0, .fieldref 8 14), (0, .nameAndType 15 12), (0, u "timer"), (0, .fieldref 8 17), (0, .nameAndType 18 12), (0, u "qleft"), (0, .fieldref 8 20), (0, .nameAndType 21 22), (0, u "detected"), (0, u "[Z"), (0, .fieldref 8 24), (0, .nameAndType 25 22), (0, u "pending"), (0, .fieldref 8 27), (0, .nameAndType 28 12), (0, u "src"), (0, .fieldref 8 30), (0, .nameAndType 31 12), (0, u "infDay"), (0, .fieldref 8 33), (0, .nameAndType 34 12), (0, u "gen"), (0, .fieldref 8 36), (0, .nameAndType 37 12), (0, u "snapComp"), (0, .fieldref 8 39), (0, .nameAndType 40 22), (0, u "snapQ"), (0, .fieldref 8 42), (0, .nameAndType 43 12), (0, u "selected"), (0, .fieldref 8 45), (0, .nameAndType 46 12), (0, u "edgeA"), (0, .fieldref 8 48), (0, .nameAndType 49 12), (0, u "edgeB"), (0, .fieldref 8 51), (0, .nameAndType 52 12), (0, u "edgeP"), (0, .methodref 8 54), (0, .nameAndType 55 56), (0, u "clamp"), (0, u "(III)I"), (0, .fieldref 8 58), (0, .nameAndType 59 60), (0, u "n"), (0, u "I"), (0, .fieldref 8 62), (0, .nameAndType 63 60), (0, u "latent"), (0, .fieldref 8 65), (0, .nameAndType 66 60), (0, u "infectious"), (0, .fieldref 8 68), (0, .nameAndType 69 60), (0, u "qdays"), (0, .fieldref 8 71), (0, .nameAndType 72 60), (0, u "edgeCount"), (0, .fieldref 8 74), (0, .nameAndType 75 60), (0, u "cap"), (0, .fieldref 8 77), (0, .nameAndType 78 60), (0, u "tests"), (0, .fieldref 8 80), (0, .nameAndType 81 60), (0, u "positives"), (0, .fieldref 8 83), (0, .nameAndType 84 60), (0, u "day"), (0, .fieldref 8 86), (0, .nameAndType 87 60), (0, u "g"), (0, .methodref 8 89), (0, .nameAndType 90 91), (0, u "valid"), (0, u "(I)Z"), (0, .methodref 8 93), (0, .nameAndType 94 95), (0, u "edgeExists"), (0, u "(II)Z"), (0, .methodref 8 97), (0, .nameAndType 98 6), (0, u "simulateDay"), (0, .methodref 8 100), (0, .nameAndType 101 102), (0, u "countCompartment"), (0, u "(I)I"), (3, u "()I"), (4, .methodref 8 112), (0, .nameAndType 113 106), (0, u "countInfected"), (0, .integer 1103515245), (0, .integer 16777215), (0, .methodref 8 117), (0, .nameAndType 118 6), (0, u "snapshot"), (0, .methodref 8 120), (0, .nameAndType 121 6), (0, u "transmit"), (0, .methodref 8 123), (0, .nameAndType 124 6), (0, u "progress"), (0, .methodref 8 126), (0, .nameAndType 127 6), (0, u "quarantineTick"), (0, .methodref 8 129), (0, .nameAndType 130 6), (0, u "testing"), (0, .methodref 8 132), (0, .nameAndType 133 95), (0, u "canInfect"), (0, .methodref 8 135), (0, .nameAndType 136 137), (0, u "tryInfect"), (0, u "(III)V"), (0, .methodref 8 139), (0, .nameAndType 140 106), (0, u "draw"), (0, .methodref 8 142), (0, .nameAndType 143 144), (0, u "testOne"), (0, u "(I)V"), (0, .methodref 8 146), (0, .nameAndType 147 144), (0, u "trace"), (0, u "S"), (2, u "E"), (2, u "R"), (1, u "KIND_QUARANTINED"), (1, u "KIND_DETECTED"), (1, u "KIND_PENDING"), (1, u "KIND_TESTS"), (1, u "KIND_POSITIVES"), (1, u "KIND_EDGES"), (1, u "KIND_DAY"), (1, u "KIND_INFECTED"), (1, u "REFUSED"), (1, u "SEED"), (0, u "NONE"), (1, u "FLAG_DETECTED"), (0, u "FLAG_PENDING"), (0, u "MAX_N"), (1, u "MAX_EDGES"), (1, u "(IIII)V"), (3, u "seedRandom"), (0, u "setCapacity"), (0, u "addEdge"), (0, u "infect"), (0, u "requestTest"), (0, u "run"), (0, u "compartment"), (0, u "quarantineLeft"), (1, u "source"), (0, u "infectionDay"), (0, u "generation"), (0, u "secondaryCases"), (0, u "count")] 3

def k2c0 : Code := { maxStack := 5, maxLocals := 6, code := prog_1_method_1_code, exceptionTable := #[], attributes := #[] }
def k2m0 : Method := { name := "<init>", desc := "(IIII)V", sig := { parameters := [.int, .int, .int, .int], returnType := none }, accessFlags := 1, code := some k2c0 }
def k2c1 : Code := { maxStack := 2, maxLocals := 2, code := prog_1_method_2_code, exceptionTable := #[], attributes := #[] }
def k2m1 : Method := { name := "seedRandom", desc := "(I)V", sig := { parameters := [.int], returnType := none }, accessFlags := 1, code := some k2c1 }
def k2c2 : Code := { maxStack := 5, maxLocals := 2, code := prog_1_method_3_code, exceptionTable := #[], attributes := #[] }
def k2m2 : Method := { name := "setCapacity", desc := "(I)I", sig := { parameters := [.int], returnType := some .int }, accessFlags := 1, code := some k2c2 }
def k2c3 : Code := { maxStack := 3, maxLocals := 5, code := prog_1_method_4_code, exceptionTable := #[], attributes := #[] }
def k2m3 : Method := { name := "addEdge", desc := "(III)I", sig := { parameters := [.int, .int, .int], returnType := some .int }, accessFlags := 1, code := some k2c3 }
def k2c4 : Code := { maxStack := 3, maxLocals := 2, code := prog_1_method_5_code, exceptionTable := #[], attributes := #[] }
def k2m4 : Method := { name := "infect", desc := "(I)Z", sig := { parameters := [.int], returnType := some .boolean }, accessFlags := 1, code := some k2c4 }
def k2c5 : Code := { maxStack := 3, maxLocals := 2, code := prog_1_method_6_code, exceptionTable := #[], attributes := #[] }
def k2m5 : Method := { name := "requestTest", desc := "(I)Z", sig := { parameters := [.int], returnType := some .boolean }, accessFlags := 1, code := some k2c5 }
def k2c6 : Code := { maxStack := 4, maxLocals := 4, code := prog_1_method_7_code, exceptionTable := #[], attributes := #[] }
def k2m6 : Method := { name := "run", desc := "(I)I", sig := { parameters := [.int], returnType := some .int }, accessFlags := 1, code := some k2c6 }
def k2c7 : Code := { maxStack := 2, maxLocals := 2, code := prog_1_method_8_code, exceptionTable := #[], attributes := #[] }
def k2m7 : Method := { name := "compartment", desc := "(I)I", sig := { parameters := [.int], returnType := some .int }, accessFlags := 1, code := some k2c7 }
def k2c8 : Code := { maxStack := 2, maxLocals := 2, code := prog_1_method_10_code, exceptionTable := #[], attributes := #[] }
def k2m8 : Method := { name := "quarantineLeft", desc := "(I)I", sig := { parameters := [.int], returnType := some .int }, accessFlags := 1, code := some k2c8 }
def k2c9 : Code := { maxStack := 2, maxLocals := 2, code := prog_1_method_12_code, exceptionTable := #[], attributes := #[] }
def k2m9 : Method := { name := "source", desc := "(I)I", sig := { parameters := [.int], returnType := some .int }, accessFlags := 1, code := some k2c9 }
def k2c10 : Code := { maxStack := 2, maxLocals := 2, code := prog_1_method_13_code, exceptionTable := #[], attributes := #[] }
def k2m10 : Method := { name := "infectionDay", desc := "(I)I", sig := { parameters := [.int], returnType := some .int }, accessFlags := 1, code := some k2c10 }
def k2c11 : Code := { maxStack := 2, maxLocals := 2, code := prog_1_method_14_code, exceptionTable := #[], attributes := #[] }
def k2m11 : Method := { name := "generation", desc := "(I)I", sig := { parameters := [.int], returnType := some .int }, accessFlags := 1, code := some k2c11 }
def k2c12 : Code := { maxStack := 2, maxLocals := 4, code := prog_1_method_15_code, exceptionTable := #[], attributes := #[] }
def k2m12 : Method := { name := "secondaryCases", desc := "(I)I", sig := { parameters := [.int], returnType := some .int }, accessFlags := 1, code := some k2c12 }
def k2c13 : Code := { maxStack := 2, maxLocals := 2, code := prog_1_method_16_code, exceptionTable := #[], attributes := #[] }
def k2m13 : Method := { name := "count", desc := "(I)I", sig := { parameters := [.int], returnType := some .int }, accessFlags := 1, code := some k2c13 }
def k2c14 : Code := { maxStack := 2, maxLocals := 4, code := prog_1_method_17_code, exceptionTable := #[], attributes := #[] }
def k2m14 : Method := { name := "clamp", desc := "(III)I", sig := { parameters := [.int, .int, .int], returnType := some .int }, accessFlags := 2, code := some k2c14 }
def k2c15 : Code := { maxStack := 2, maxLocals := 2, code := prog_1_method_18_code, exceptionTable := #[], attributes := #[] }
def k2m15 : Method := { name := "valid", desc := "(I)Z", sig := { parameters := [.int], returnType := some .boolean }, accessFlags := 2, code := some k2c15 }
def k2c16 : Code := { maxStack := 3, maxLocals := 1, code := prog_1_method_19_code, exceptionTable := #[], attributes := #[] }
def k2m16 : Method := { name := "draw", desc := "()I", sig := { parameters := [], returnType := some .int }, accessFlags := 2, code := some k2c16 }
def k2c17 : Code := { maxStack := 2, maxLocals := 6, code := prog_1_method_20_code, exceptionTable := #[], attributes := #[] }
def k2m17 : Method := { name := "edgeExists", desc := "(II)Z", sig := { parameters := [.int, .int], returnType := some .boolean }, accessFlags := 2, code := some k2c17 }
def k2c18 : Code := { maxStack := 3, maxLocals := 1, code := prog_1_method_21_code, exceptionTable := #[], attributes := #[] }
def k2m18 : Method := { name := "simulateDay", desc := "()V", sig := { parameters := [], returnType := none }, accessFlags := 2, code := some k2c18 }
def k2c19 : Code := { maxStack := 4, maxLocals := 2, code := prog_1_method_22_code, exceptionTable := #[], attributes := #[] }
def k2m19 : Method := { name := "snapshot", desc := "()V", sig := { parameters := [], returnType := none }, accessFlags := 2, code := some k2c19 }
def k2c20 : Code := { maxStack := 2, maxLocals := 3, code := prog_1_method_23_code, exceptionTable := #[], attributes := #[] }
def k2m20 : Method := { name := "canInfect", desc := "(II)Z", sig := { parameters := [.int, .int], returnType := some .boolean }, accessFlags := 2, code := some k2c20 }
def k2c21 : Code := { maxStack := 5, maxLocals := 4, code := prog_1_method_24_code, exceptionTable := #[], attributes := #[] }
def k2m21 : Method := { name := "transmit", desc := "()V", sig := { parameters := [], returnType := none }, accessFlags := 2, code := some k2c21 }
def k2c22 : Code := { maxStack := 4, maxLocals := 5, code := prog_1_method_25_code, exceptionTable := #[], attributes := #[] }
def k2m22 : Method := { name := "tryInfect", desc := "(III)V", sig := { parameters := [.int, .int, .int], returnType := none }, accessFlags := 2, code := some k2c22 }
def k2c23 : Code := { maxStack := 4, maxLocals := 2, code := prog_1_method_26_code, exceptionTable := #[], attributes := #[] }
def k2m23 : Method := { name := "progress", desc := "()V", sig := { parameters := [], returnType := none }, accessFlags := 2, code := some k2c23 }
def k2c24 : Code := { maxStack := 4, maxLocals := 2, code := prog_1_method_27_code, exceptionTable := #[], attributes := #[] }
def k2m24 : Method := { name := "quarantineTick", desc := "()V", sig := { parameters := [], returnType := none }, accessFlags := 2, code := some k2c24 }
def k2c25 : Code := { maxStack := 3, maxLocals := 3, code := prog_1_method_28_code, exceptionTable := #[], attributes := #[] }
def k2m25 : Method := { name := "testing", desc := "()V", sig := { parameters := [], returnType := none }, accessFlags := 2, code := some k2c25 }
def k2c26 : Code := { maxStack := 3, maxLocals := 2, code := prog_1_method_29_code, exceptionTable := #[], attributes := #[] }
def k2m26 : Method := { name := "testOne", desc := "(I)V", sig := { parameters := [.int], returnType := none }, accessFlags := 2, code := some k2c26 }
def k2c27 : Code := { maxStack := 3, maxLocals := 4, code := prog_1_method_30_code, exceptionTable := #[], attributes := #[] }
def k2m27 : Method := { name := "trace", desc := "(I)V", sig := { parameters := [.int], returnType := none }, accessFlags := 2, code := some k2c27 }
def k2c28 : Code := { maxStack := 2, maxLocals := 4, code := prog_1_method_31_code, exceptionTable := #[], attributes := #[] }
def k2m28 : Method := { name := "countCompartment", desc := "(I)I", sig := { parameters := [.int], returnType := some .int }, accessFlags := 2, code := some k2c28 }
def k2c29 : Code := { maxStack := 2, maxLocals := 3, code := prog_1_method_34_code, exceptionTable := #[], attributes := #[] }
def k2m29 : Method := { name := "countInfected", desc := "()I", sig := { parameters := [], returnType := some .int }, accessFlags := 2, code := some k2c29 }
/-- EpidemicTrace -/
def k2 : Class := { plain "EpidemicTrace" (some 0) with
  accessFlags := 49
  interfaces := #[]
  cf := some (fileOf pool2 8 #[] #[{ accessFlags := 1, nameIndex := 5, descriptorIndex := 183, attributes := #[] }, { accessFlags := 1, nameIndex := 187, descriptorIndex := 144, attributes := #[] }, { accessFlags := 1, nameIndex := 188, descriptorIndex := 102, attributes := #[] }, { accessFlags := 1, nameIndex := 189, descriptorIndex := 56, attributes := #[] }, { accessFlags := 1, nameIndex := 190, descriptorIndex := 91, attributes := #[] }, { accessFlags := 1, nameIndex := 191, descriptorIndex := 91, attributes := #[] }, { accessFlags := 1, nameIndex := 192, descriptorIndex := 102, attributes := #[] }, { accessFlags := 1, nameIndex := 193, descriptorIndex := 102, attributes := #[] }, { accessFlags := 1, nameIndex := 194, descriptorIndex := 102, attributes := #[] }, { accessFlags := 1, nameIndex := 196, descriptorIndex := 102, attributes := #[] }, { accessFlags := 1, nameIndex := 197, descriptorIndex := 102, attributes := #[] }, { accessFlags := 1, nameIndex := 198, descriptorIndex := 102, attributes := #[] }, { accessFlags := 1, nameIndex := 199, descriptorIndex := 102, attributes := #[] }, { accessFlags := 1, nameIndex := 200, descriptorIndex := 102, attributes := #[] }, { accessFlags := 2, nameIndex := 55, descriptorIndex := 56, attributes := #[] }, { accessFlags := 2, nameIndex := 90, descriptorIndex := 91, attributes := #[] }, { accessFlags := 2, nameIndex := 140, descriptorIndex := 106, attributes := #[] }, { accessFlags := 2, nameIndex := 94, descriptorIndex := 95, attributes := #[] }, { accessFlags := 2, nameIndex := 98, descriptorIndex := 6, attributes := #[] }, { accessFlags := 2, nameIndex := 118, descriptorIndex := 6, attributes := #[] }, { accessFlags := 2, nameIndex := 133, descriptorIndex := 95, attributes := #[] }, { accessFlags := 2, nameIndex := 121, descriptorIndex := 6, attributes := #[] }, { accessFlags := 2, nameIndex := 136, descriptorIndex := 137, attributes := #[] }, { accessFlags := 2, nameIndex := 124, descriptorIndex := 6, attributes := #[] }, { accessFlags := 2, nameIndex := 127, descriptorIndex := 6, attributes := #[] }, { accessFlags := 2, nameIndex := 130, descriptorIndex := 6, attributes := #[] }, { accessFlags := 2, nameIndex := 143, descriptorIndex := 144, attributes := #[] }, { accessFlags := 2, nameIndex := 147, descriptorIndex := 144, attributes := #[] }, { accessFlags := 2, nameIndex := 101, descriptorIndex := 102, attributes := #[] }, { accessFlags := 2, nameIndex := 113, descriptorIndex := 106, attributes := #[] }] 49 2 #[] #[{ accessFlags := 25, nameIndex := 148, descriptorIndex := 60, attributes := #[] }, { accessFlags := 25, nameIndex := 151, descriptorIndex := 60, attributes := #[] }, { accessFlags := 25, nameIndex := 60, descriptorIndex := 60, attributes := #[] }, { accessFlags := 25, nameIndex := 154, descriptorIndex := 60, attributes := #[] }, { accessFlags := 25, nameIndex := 156, descriptorIndex := 60, attributes := #[] }, { accessFlags := 25, nameIndex := 158, descriptorIndex := 60, attributes := #[] }, { accessFlags := 25, nameIndex := 160, descriptorIndex := 60, attributes := #[] }, { accessFlags := 25, nameIndex := 162, descriptorIndex := 60, attributes := #[] }, { accessFlags := 25, nameIndex := 164, descriptorIndex := 60, attributes := #[] }, { accessFlags := 25, nameIndex := 166, descriptorIndex := 60, attributes := #[] }, { accessFlags := 25, nameIndex := 168, descriptorIndex := 60, attributes := #[] }, { accessFlags := 25, nameIndex := 170, descriptorIndex := 60, attributes := #[] }, { accessFlags := 25, nameIndex := 172, descriptorIndex := 60, attributes := #[] }, { accessFlags := 25, nameIndex := 174, descriptorIndex := 60, attributes := #[] }, { accessFlags := 25, nameIndex := 175, descriptorIndex := 60, attributes := #[] }, { accessFlags := 25, nameIndex := 177, descriptorIndex := 60, attributes := #[] }, { accessFlags := 25, nameIndex := 178, descriptorIndex := 60, attributes := #[] }, { accessFlags := 26, nameIndex := 179, descriptorIndex := 60, attributes := #[] }, { accessFlags := 26, nameIndex := 181, descriptorIndex := 60, attributes := #[] }, { accessFlags := 2, nameIndex := 59, descriptorIndex := 60, attributes := #[] }, { accessFlags := 2, nameIndex := 63, descriptorIndex := 60, attributes := #[] }, { accessFlags := 2, nameIndex := 66, descriptorIndex := 60, attributes := #[] }, { accessFlags := 2, nameIndex := 69, descriptorIndex := 60, attributes := #[] }, { accessFlags := 18, nameIndex := 11, descriptorIndex := 12, attributes := #[] }, { accessFlags := 18, nameIndex := 15, descriptorIndex := 12, attributes := #[] }, { accessFlags := 18, nameIndex := 18, descriptorIndex := 12, attributes := #[] }, { accessFlags := 18, nameIndex := 21, descriptorIndex := 22, attributes := #[] }, { accessFlags := 18, nameIndex := 25, descriptorIndex := 22, attributes := #[] }, { accessFlags := 18, nameIndex := 28, descriptorIndex := 12, attributes := #[] }, { accessFlags := 18, nameIndex := 31, descriptorIndex := 12, attributes := #[] }, { accessFlags := 18, nameIndex := 34, descriptorIndex := 12, attributes := #[] }, { accessFlags := 18, nameIndex := 37, descriptorIndex := 12, attributes := #[] }, { accessFlags := 18, nameIndex := 40, descriptorIndex := 22, attributes := #[] }, { accessFlags := 18, nameIndex := 43, descriptorIndex := 12, attributes := #[] }, { accessFlags := 18, nameIndex := 46, descriptorIndex := 12, attributes := #[] }, { accessFlags := 18, nameIndex := 49, descriptorIndex := 12, attributes := #[] }, { accessFlags := 18, nameIndex := 52, descriptorIndex := 12, attributes := #[] }, { accessFlags := 2, nameIndex := 72, descriptorIndex := 60, attributes := #[] }, { accessFlags := 2, nameIndex := 75, descriptorIndex := 60, attributes := #[] }, { accessFlags := 2, nameIndex := 78, descriptorIndex := 60, attributes := #[] }, { accessFlags := 2, nameIndex := 81, descriptorIndex := 60, attributes := #[] }, { accessFlags := 2, nameIndex := 84, descriptorIndex := 60, attributes := #[] }, { accessFlags := 2, nameIndex := 87, descriptorIndex := 60, attributes := #[] }])
  fields := #[{ name := "S", type := .int, accessFlags := 25, slot := 0, constantValue := 0 }, { name := "E", type := .int, accessFlags := 25, slot := 1, constantValue := 0 }, { name := "I", type := .int, accessFlags := 25, slot := 2, constantValue := 0 }, { name := "R", type := .int, accessFlags := 25, slot := 3, constantValue := 0 }, { name := "KIND_QUARANTINED", type := .int, accessFlags := 25, slot := 4, constantValue := 0 }, { name := "KIND_DETECTED", type := .int, accessFlags := 25, slot := 5, constantValue := 0 }, { name := "KIND_PENDING", type := .int, accessFlags := 25, slot := 6, constantValue := 0 }, { name := "KIND_TESTS", type := .int, accessFlags := 25, slot := 7, constantValue := 0 }, { name := "KIND_POSITIVES", type := .int, accessFlags := 25, slot := 8, constantValue := 0 }, { name := "KIND_EDGES", type := .int, accessFlags := 25, slot := 9, constantValue := 0 }, { name := "KIND_DAY", type := .int, accessFlags := 25, slot := 10, constantValue := 0 }, { name := "KIND_INFECTED", type := .int, accessFlags := 25, slot := 11, constantValue := 0 }, { name := "REFUSED", type := .int, accessFlags := 25, slot := 12, constantValue := 0 }, { name := "SEED", type := .int, accessFlags := 25, slot := 13, constantValue := 0 }, { name := "NONE", type := .int, accessFlags := 25, slot := 14, constantValue := 0 }, { name := "FLAG_DETECTED", type := .int, accessFlags := 25, slot := 15, constantValue := 0 }, { name := "FLAG_PENDING", type := .int, accessFlags := 25, slot := 16, constantValue := 0 }, { name := "MAX_N", type := .int, accessFlags := 26, slot := 17, constantValue := 0 }, { name := "MAX_EDGES", type := .int, accessFlags := 26, slot := 18, constantValue := 0 }, { name := "n", type := .int, accessFlags := 2, slot := 0, constantValue := 0 }, { name := "latent", type := .int, accessFlags := 2, slot := 1, constantValue := 0 }, { name := "infectious", type := .int, accessFlags := 2, slot := 2, constantValue := 0 }, { name := "qdays", type := .int, accessFlags := 2, slot := 3, constantValue := 0 }, { name := "comp", type := (.array .int), accessFlags := 18, slot := 4, constantValue := 0 }, { name := "timer", type := (.array .int), accessFlags := 18, slot := 5, constantValue := 0 }, { name := "qleft", type := (.array .int), accessFlags := 18, slot := 6, constantValue := 0 }, { name := "detected", type := (.array .boolean), accessFlags := 18, slot := 7, constantValue := 0 }, { name := "pending", type := (.array .boolean), accessFlags := 18, slot := 8, constantValue := 0 }, { name := "src", type := (.array .int), accessFlags := 18, slot := 9, constantValue := 0 }, { name := "infDay", type := (.array .int), accessFlags := 18, slot := 10, constantValue := 0 }, { name := "gen", type := (.array .int), accessFlags := 18, slot := 11, constantValue := 0 }, { name := "snapComp", type := (.array .int), accessFlags := 18, slot := 12, constantValue := 0 }, { name := "snapQ", type := (.array .boolean), accessFlags := 18, slot := 13, constantValue := 0 }, { name := "selected", type := (.array .int), accessFlags := 18, slot := 14, constantValue := 0 }, { name := "edgeA", type := (.array .int), accessFlags := 18, slot := 15, constantValue := 0 }, { name := "edgeB", type := (.array .int), accessFlags := 18, slot := 16, constantValue := 0 }, { name := "edgeP", type := (.array .int), accessFlags := 18, slot := 17, constantValue := 0 }, { name := "edgeCount", type := .int, accessFlags := 2, slot := 18, constantValue := 0 }, { name := "cap", type := .int, accessFlags := 2, slot := 19, constantValue := 0 }, { name := "tests", type := .int, accessFlags := 2, slot := 20, constantValue := 0 }, { name := "positives", type := .int, accessFlags := 2, slot := 21, constantValue := 0 }, { name := "day", type := .int, accessFlags := 2, slot := 22, constantValue := 0 }, { name := "g", type := .int, accessFlags := 2, slot := 23, constantValue := 0 }]
  methods := #[k2m0, k2m1, k2m2, k2m3, k2m4, k2m5, k2m6, k2m7, k2m8, k2m9, k2m10, k2m11, k2m12, k2m13, k2m14, k2m15, k2m16, k2m17, k2m18, k2m19, k2m20, k2m21, k2m22, k2m23, k2m24, k2m25, k2m26, k2m27, k2m28, k2m29]
  instanceTypes := #[.int, .int, .int, .int, (.array .int), (.array .int), (.array .int), (.array .boolean), (.array .boolean), (.array .int), (.array .int), (.array .int), (.array .int), (.array .boolean), (.array .int), (.array .int), (.array .int), (.array .int), .int, .int, .int, .int, .int, .int]
  staticTypes := #[.int, .int, .int, .int, .int, .int, .int, .int, .int, .int, .int, .int, .int, .int, .int, .int, .int, .int, .int]
  resolved := Array.replicate 204 none
  statics := none }

def pool3 : Array CpInfo := pool [(1, u "java/lang/Cloneable"), (0, .class_ 1), (0, u "java/lang/Object"), (0, .class_ 3)] 3

/-- java/lang/Cloneable -/
def k3 : Class := { plain "java/lang/Cloneable" (some 0) with
  accessFlags := 1537
  interfaces := #[]
  cf := some (fileOf pool3 2 #[] #[] 1537 4 #[] #[])
  fields := #[]
  methods := #[]
  instanceTypes := #[]
  staticTypes := #[]
  resolved := Array.replicate 8 none
  statics := none }

def pool4 : Array CpInfo := pool [(1, u "java/io/Serializable"), (0, .class_ 1), (0, u "java/lang/Object"), (0, .class_ 3)] 3

/-- java/io/Serializable -/
def k4 : Class := { plain "java/io/Serializable" (some 0) with
  accessFlags := 1537
  interfaces := #[]
  cf := some (fileOf pool4 2 #[] #[] 1537 4 #[] #[])
  fields := #[]
  methods := #[]
  instanceTypes := #[]
  staticTypes := #[]
  resolved := Array.replicate 8 none
  statics := none }

/-- the primitive boolean -/
def k5 : Class := { plain "boolean" none with kind := .primitive 'Z', accessFlags := 0x411 }
/-- [Z -/
def k6 : Class := { plain "[Z" (some 0) with kind := .array 5 .boolean, interfaces := #[3, 4], accessFlags := 1041 }

/-- the primitive byte -/
def k7 : Class := { plain "byte" none with kind := .primitive 'B', accessFlags := 0x411 }
/-- [B -/
def k8 : Class := { plain "[B" (some 0) with kind := .array 7 .byte, interfaces := #[3, 4], accessFlags := 1041 }

/-- the primitive int -/
def k9 : Class := { plain "int" none with kind := .primitive 'I', accessFlags := 0x411 }
/-- [I -/
def k10 : Class := { plain "[I" (some 0) with kind := .array 9 .int, interfaces := #[3, 4], accessFlags := 1041 }

def heap : Heap := #[{ cls := 10, slots := #[.int 0, .int 3, .int 5, .int 1], vm := .none }]
def classes : Array Class := #[k0, k1, k2, k3, k4, k5, k6, k7, k8, k9, k10]
def interned : List (Array UInt16 × Addr) := []
def slotsUsed : Nat := 4
def theMethod : MethodId := ⟨1, 4⟩
def args0 : Array Value := #[.ref 0]
def aboutOver (below : List Frame) : State where
  vm := { classes := classes, interned := interned.toArray }
  heap := heap
  slotsUsed := slotsUsed
  threads := #[{ frames := .invoking theMethod args0 :: below }]
def below0 : List Frame := [.native { method := ⟨0, 0⟩, args := #[] }]
def about1 : State := aboutOver below0
def p0 : Program := .bare "" "" ""
def e0 : Env := launch0.env 0 0 0
theorem w_frames : about1.frames = Frame.invoking theMethod args0 :: below0 := rfl
set_option maxRecDepth 65536 in
theorem w_args : argsFit about1.vm theMethod args0 = true := by decide +kernel
set_option maxRecDepth 65536 in
theorem w_heap : heapFits about1 = true := by decide +kernel
set_option maxRecDepth 65536 in
theorem w_runnable : about1.curStatus? = some .runnable := by decide +kernel
set_option maxRecDepth 65536 in
theorem w_alone : about1.alone = true := by decide +kernel
set_option maxRecDepth 65536 in
theorem w_named : about1.methodNamed? x = some theMethod := by decide +kernel
set_option maxRecDepth 65536 in
theorem w_hears : about1.hears theMethod below0 = true := by decide +kernel
set_option maxRecDepth 65536 in
theorem w_ripe : about1.ripe theMethod args0 below0 = true := by decide +kernel
theorem w_running : about1.status = .running := rfl
set_option maxRecDepth 65536 in
theorem w_room : about1.hasRoom e0.platform room_1 = true :=
  launch0.hasRoom_least _ room_1 (by decide +kernel) (by decide +kernel) (by decide +kernel) (by decide +kernel) (by decide +kernel) (by decide +kernel)
theorem allAtoms_all (ts : List Jvm.Cond) (a : Array Jvm.Value) (st : Jvm.State) : (allAtoms ts).before a st = ts.all (fun c => c.before a st) := by
  induction ts with
  | nil => rfl
  | cons c t ih =>
    show (Jvm.Cond.and c (allAtoms t)).before a st = _
    rw [Jvm.Cond.before_and, ih, List.all_cons]
def words1 : List Jvm.Cond := Jvm.Cond.code x code maxLocals ret :: tables_1
/-- a 'code' word, met by the world's own term for the bytes: nothing is compared byte by byte -/
theorem code_word {y : MethodName} {bytes : ByteArray} {mx : Nat} {rt : Option FieldType} {a : Array Value} {s : State} {m : MethodId} {meth : Method} {c : Code} (h1 : s.methodNamed? y = some m) (h2 : s.vm.method? m = some meth) (h3 : meth.code = some c) (h4 : c.code = bytes)
    (h5 : (c.maxLocals == mx && c.exceptionTable.isEmpty && decide (c.maxStack ≤ mostOperands) && decide (meth.sig.returnType = rt) && !meth.locks && decide (parseMethodDescriptor y.desc = some meth.sig)) = true) : (Jvm.Cond.code y bytes mx rt).before a s = true := by
  simp only [Bool.and_eq_true, beq_iff_eq, Bool.not_eq_true', decide_eq_true_eq] at h5
  obtain ⟨⟨⟨⟨⟨g1, g2⟩, g3⟩, g4⟩, g5⟩, g6⟩ := h5
  simp [Cond.before, Cond.holds, Cond.value, h1, h2, h3, h4, g1, g2, g3, g4, g5, g6]
def isCode : Jvm.Cond → Bool
  | .code _ _ _ _ => true
  | _ => false
theorem all_split {L : List Jvm.Cond} {P : Jvm.Cond → Bool} (h1 : L.all (fun c => isCode c || P c) = true) (h2 : ∀ c ∈ L.filter isCode, P c = true) : L.all P = true := by
  refine List.all_eq_true.mpr fun c hc => ?_
  have h := List.all_eq_true.mp h1 c hc
  rcases Bool.eq_false_or_eq_true (isCode c) with hi | hi
  · exact h2 c (List.mem_filter.mpr ⟨hc, hi⟩)
  · simpa [hi] using h
set_option maxRecDepth 65536 in
theorem w_c0 : (Jvm.Cond.code x code maxLocals ret).before args0 about1 = true := code_word (m := ⟨1, 4⟩) (meth := k1m4) (c := k1c4) (by decide +kernel) rfl rfl rfl (by decide +kernel)
set_option maxRecDepth 65536 in
theorem w_c1 : (Jvm.Cond.code ({ cls := "EpidemicTraceOwnLaw", name := "cell", desc := "([II)I" } : Jvm.MethodName) method_2_code (2 : Nat) (Option.some Jvm.ClassFile.FieldType.int)).before args0 about1 = true := code_word (m := ⟨1, 1⟩) (meth := k1m1) (c := k1c1) (by decide +kernel) rfl rfl rfl (by decide +kernel)
set_option maxRecDepth 65536 in
theorem w_c2 : (Jvm.Cond.code ({ cls := "EpidemicTraceOwnLaw", name := "nn", desc := "(II)I" } : Jvm.MethodName) method_3_code (2 : Nat) (Option.some Jvm.ClassFile.FieldType.int)).before args0 about1 = true := code_word (m := ⟨1, 2⟩) (meth := k1m2) (c := k1c2) (by decide +kernel) rfl rfl rfl (by decide +kernel)
set_option maxRecDepth 65536 in
theorem w_c3 : (Jvm.Cond.code ({ cls := "EpidemicTrace", name := "<init>", desc := "(IIII)V" } : Jvm.MethodName) prog_1_method_1_code (6 : Nat) (Option.none : Option Jvm.ClassFile.FieldType)).before args0 about1 = true := code_word (m := ⟨2, 0⟩) (meth := k2m0) (c := k2c0) (by decide +kernel) rfl rfl rfl (by decide +kernel)
set_option maxRecDepth 65536 in
theorem w_c4 : (Jvm.Cond.code ({ cls := "java/lang/Object", name := "<init>", desc := "()V" } : Jvm.MethodName) object_method_1_code (1 : Nat) (Option.none : Option Jvm.ClassFile.FieldType)).before args0 about1 = true := code_word (m := ⟨0, 0⟩) (meth := k0m0) (c := k0c0) (by decide +kernel) rfl rfl rfl (by decide +kernel)
set_option maxRecDepth 65536 in
theorem w_c5 : (Jvm.Cond.code ({ cls := "EpidemicTrace", name := "clamp", desc := "(III)I" } : Jvm.MethodName) prog_1_method_17_code (4 : Nat) (Option.some Jvm.ClassFile.FieldType.int)).before args0 about1 = true := code_word (m := ⟨2, 14⟩) (meth := k2m14) (c := k2c14) (by decide +kernel) rfl rfl rfl (by decide +kernel)
set_option maxRecDepth 65536 in
theorem w_c6 : (Jvm.Cond.code ({ cls := "EpidemicTrace", name := "seedRandom", desc := "(I)V" } : Jvm.MethodName) prog_1_method_2_code (2 : Nat) (Option.none : Option Jvm.ClassFile.FieldType)).before args0 about1 = true := code_word (m := ⟨2, 1⟩) (meth := k2m1) (c := k2c1) (by decide +kernel) rfl rfl rfl (by decide +kernel)
set_option maxRecDepth 65536 in
theorem w_c7 : (Jvm.Cond.code ({ cls := "EpidemicTrace", name := "setCapacity", desc := "(I)I" } : Jvm.MethodName) prog_1_method_3_code (2 : Nat) (Option.some Jvm.ClassFile.FieldType.int)).before args0 about1 = true := code_word (m := ⟨2, 2⟩) (meth := k2m2) (c := k2c2) (by decide +kernel) rfl rfl rfl (by decide +kernel)
set_option maxRecDepth 65536 in
theorem w_c8 : (Jvm.Cond.code ({ cls := "EpidemicTrace", name := "count", desc := "(I)I" } : Jvm.MethodName) prog_1_method_16_code (2 : Nat) (Option.some Jvm.ClassFile.FieldType.int)).before args0 about1 = true := code_word (m := ⟨2, 13⟩) (meth := k2m13) (c := k2c13) (by decide +kernel) rfl rfl rfl (by decide +kernel)
set_option maxRecDepth 65536 in
theorem w_c9 : (Jvm.Cond.code ({ cls := "EpidemicTrace", name := "countCompartment", desc := "(I)I" } : Jvm.MethodName) prog_1_method_31_code (4 : Nat) (Option.some Jvm.ClassFile.FieldType.int)).before args0 about1 = true := code_word (m := ⟨2, 28⟩) (meth := k2m28) (c := k2c28) (by decide +kernel) rfl rfl rfl (by decide +kernel)
set_option maxRecDepth 65536 in
theorem w_c10 : (Jvm.Cond.code ({ cls := "EpidemicTrace", name := "countInfected", desc := "()I" } : Jvm.MethodName) prog_1_method_34_code (3 : Nat) (Option.some Jvm.ClassFile.FieldType.int)).before args0 about1 = true := code_word (m := ⟨2, 29⟩) (meth := k2m29) (c := k2c29) (by decide +kernel) rfl rfl rfl (by decide +kernel)
set_option maxRecDepth 65536 in
theorem w_c11 : (Jvm.Cond.code ({ cls := "EpidemicTrace", name := "compartment", desc := "(I)I" } : Jvm.MethodName) prog_1_method_8_code (2 : Nat) (Option.some Jvm.ClassFile.FieldType.int)).before args0 about1 = true := code_word (m := ⟨2, 7⟩) (meth := k2m7) (c := k2c7) (by decide +kernel) rfl rfl rfl (by decide +kernel)
set_option maxRecDepth 65536 in
theorem w_c12 : (Jvm.Cond.code ({ cls := "EpidemicTrace", name := "valid", desc := "(I)Z" } : Jvm.MethodName) prog_1_method_18_code (2 : Nat) (Option.some Jvm.ClassFile.FieldType.boolean)).before args0 about1 = true := code_word (m := ⟨2, 15⟩) (meth := k2m15) (c := k2c15) (by decide +kernel) rfl rfl rfl (by decide +kernel)
set_option maxRecDepth 65536 in
theorem w_c13 : (Jvm.Cond.code ({ cls := "EpidemicTrace", name := "source", desc := "(I)I" } : Jvm.MethodName) prog_1_method_12_code (2 : Nat) (Option.some Jvm.ClassFile.FieldType.int)).before args0 about1 = true := code_word (m := ⟨2, 9⟩) (meth := k2m9) (c := k2c9) (by decide +kernel) rfl rfl rfl (by decide +kernel)
set_option maxRecDepth 65536 in
theorem w_c14 : (Jvm.Cond.code ({ cls := "EpidemicTrace", name := "generation", desc := "(I)I" } : Jvm.MethodName) prog_1_method_14_code (2 : Nat) (Option.some Jvm.ClassFile.FieldType.int)).before args0 about1 = true := code_word (m := ⟨2, 11⟩) (meth := k2m11) (c := k2c11) (by decide +kernel) rfl rfl rfl (by decide +kernel)
set_option maxRecDepth 65536 in
theorem w_c15 : (Jvm.Cond.code ({ cls := "EpidemicTrace", name := "infectionDay", desc := "(I)I" } : Jvm.MethodName) prog_1_method_13_code (2 : Nat) (Option.some Jvm.ClassFile.FieldType.int)).before args0 about1 = true := code_word (m := ⟨2, 10⟩) (meth := k2m10) (c := k2c10) (by decide +kernel) rfl rfl rfl (by decide +kernel)
set_option maxRecDepth 65536 in
theorem w_c16 : (Jvm.Cond.code ({ cls := "EpidemicTrace", name := "secondaryCases", desc := "(I)I" } : Jvm.MethodName) prog_1_method_15_code (4 : Nat) (Option.some Jvm.ClassFile.FieldType.int)).before args0 about1 = true := code_word (m := ⟨2, 12⟩) (meth := k2m12) (c := k2c12) (by decide +kernel) rfl rfl rfl (by decide +kernel)
set_option maxRecDepth 65536 in
theorem w_c17 : (Jvm.Cond.code ({ cls := "EpidemicTrace", name := "infect", desc := "(I)Z" } : Jvm.MethodName) prog_1_method_5_code (2 : Nat) (Option.some Jvm.ClassFile.FieldType.boolean)).before args0 about1 = true := code_word (m := ⟨2, 4⟩) (meth := k2m4) (c := k2c4) (by decide +kernel) rfl rfl rfl (by decide +kernel)
set_option maxRecDepth 65536 in
theorem w_c18 : (Jvm.Cond.code ({ cls := "EpidemicTrace", name := "addEdge", desc := "(III)I" } : Jvm.MethodName) prog_1_method_4_code (5 : Nat) (Option.some Jvm.ClassFile.FieldType.int)).before args0 about1 = true := code_word (m := ⟨2, 3⟩) (meth := k2m3) (c := k2c3) (by decide +kernel) rfl rfl rfl (by decide +kernel)
set_option maxRecDepth 65536 in
theorem w_c19 : (Jvm.Cond.code ({ cls := "EpidemicTrace", name := "edgeExists", desc := "(II)Z" } : Jvm.MethodName) prog_1_method_20_code (6 : Nat) (Option.some Jvm.ClassFile.FieldType.boolean)).before args0 about1 = true := code_word (m := ⟨2, 17⟩) (meth := k2m17) (c := k2c17) (by decide +kernel) rfl rfl rfl (by decide +kernel)
set_option maxRecDepth 65536 in
theorem w_c20 : (Jvm.Cond.code ({ cls := "EpidemicTraceOwnLaw", name := "bit", desc := "(II)I" } : Jvm.MethodName) method_4_code (4 : Nat) (Option.some Jvm.ClassFile.FieldType.int)).before args0 about1 = true := code_word (m := ⟨1, 3⟩) (meth := k1m3) (c := k1c3) (by decide +kernel) rfl rfl rfl (by decide +kernel)
set_option maxRecDepth 65536 in
theorem w_c21 : (Jvm.Cond.code ({ cls := "EpidemicTrace", name := "requestTest", desc := "(I)Z" } : Jvm.MethodName) prog_1_method_6_code (2 : Nat) (Option.some Jvm.ClassFile.FieldType.boolean)).before args0 about1 = true := code_word (m := ⟨2, 5⟩) (meth := k2m5) (c := k2c5) (by decide +kernel) rfl rfl rfl (by decide +kernel)
set_option maxRecDepth 65536 in
theorem w_c22 : (Jvm.Cond.code ({ cls := "EpidemicTrace", name := "quarantineLeft", desc := "(I)I" } : Jvm.MethodName) prog_1_method_10_code (2 : Nat) (Option.some Jvm.ClassFile.FieldType.int)).before args0 about1 = true := code_word (m := ⟨2, 8⟩) (meth := k2m8) (c := k2c8) (by decide +kernel) rfl rfl rfl (by decide +kernel)
set_option maxRecDepth 65536 in
theorem w_c23 : (Jvm.Cond.code ({ cls := "EpidemicTrace", name := "run", desc := "(I)I" } : Jvm.MethodName) prog_1_method_7_code (4 : Nat) (Option.some Jvm.ClassFile.FieldType.int)).before args0 about1 = true := code_word (m := ⟨2, 6⟩) (meth := k2m6) (c := k2c6) (by decide +kernel) rfl rfl rfl (by decide +kernel)
set_option maxRecDepth 65536 in
theorem w_c24 : (Jvm.Cond.code ({ cls := "EpidemicTrace", name := "simulateDay", desc := "()V" } : Jvm.MethodName) prog_1_method_21_code (1 : Nat) (Option.none : Option Jvm.ClassFile.FieldType)).before args0 about1 = true := code_word (m := ⟨2, 18⟩) (meth := k2m18) (c := k2c18) (by decide +kernel) rfl rfl rfl (by decide +kernel)
set_option maxRecDepth 65536 in
theorem w_c25 : (Jvm.Cond.code ({ cls := "EpidemicTrace", name := "snapshot", desc := "()V" } : Jvm.MethodName) prog_1_method_22_code (2 : Nat) (Option.none : Option Jvm.ClassFile.FieldType)).before args0 about1 = true := code_word (m := ⟨2, 19⟩) (meth := k2m19) (c := k2c19) (by decide +kernel) rfl rfl rfl (by decide +kernel)
set_option maxRecDepth 65536 in
theorem w_c26 : (Jvm.Cond.code ({ cls := "EpidemicTrace", name := "transmit", desc := "()V" } : Jvm.MethodName) prog_1_method_24_code (4 : Nat) (Option.none : Option Jvm.ClassFile.FieldType)).before args0 about1 = true := code_word (m := ⟨2, 21⟩) (meth := k2m21) (c := k2c21) (by decide +kernel) rfl rfl rfl (by decide +kernel)
set_option maxRecDepth 65536 in
theorem w_c27 : (Jvm.Cond.code ({ cls := "EpidemicTrace", name := "canInfect", desc := "(II)Z" } : Jvm.MethodName) prog_1_method_23_code (3 : Nat) (Option.some Jvm.ClassFile.FieldType.boolean)).before args0 about1 = true := code_word (m := ⟨2, 20⟩) (meth := k2m20) (c := k2c20) (by decide +kernel) rfl rfl rfl (by decide +kernel)
set_option maxRecDepth 65536 in
theorem w_c28 : (Jvm.Cond.code ({ cls := "EpidemicTrace", name := "progress", desc := "()V" } : Jvm.MethodName) prog_1_method_26_code (2 : Nat) (Option.none : Option Jvm.ClassFile.FieldType)).before args0 about1 = true := code_word (m := ⟨2, 23⟩) (meth := k2m23) (c := k2c23) (by decide +kernel) rfl rfl rfl (by decide +kernel)
set_option maxRecDepth 65536 in
theorem w_c29 : (Jvm.Cond.code ({ cls := "EpidemicTrace", name := "quarantineTick", desc := "()V" } : Jvm.MethodName) prog_1_method_27_code (2 : Nat) (Option.none : Option Jvm.ClassFile.FieldType)).before args0 about1 = true := code_word (m := ⟨2, 24⟩) (meth := k2m24) (c := k2c24) (by decide +kernel) rfl rfl rfl (by decide +kernel)
set_option maxRecDepth 65536 in
theorem w_c30 : (Jvm.Cond.code ({ cls := "EpidemicTrace", name := "testing", desc := "()V" } : Jvm.MethodName) prog_1_method_28_code (3 : Nat) (Option.none : Option Jvm.ClassFile.FieldType)).before args0 about1 = true := code_word (m := ⟨2, 25⟩) (meth := k2m25) (c := k2c25) (by decide +kernel) rfl rfl rfl (by decide +kernel)
set_option maxRecDepth 65536 in
theorem w_c31 : (Jvm.Cond.code ({ cls := "EpidemicTrace", name := "testOne", desc := "(I)V" } : Jvm.MethodName) prog_1_method_29_code (2 : Nat) (Option.none : Option Jvm.ClassFile.FieldType)).before args0 about1 = true := code_word (m := ⟨2, 26⟩) (meth := k2m26) (c := k2c26) (by decide +kernel) rfl rfl rfl (by decide +kernel)
set_option maxRecDepth 65536 in
theorem w_c32 : (Jvm.Cond.code ({ cls := "EpidemicTrace", name := "tryInfect", desc := "(III)V" } : Jvm.MethodName) prog_1_method_25_code (5 : Nat) (Option.none : Option Jvm.ClassFile.FieldType)).before args0 about1 = true := code_word (m := ⟨2, 22⟩) (meth := k2m22) (c := k2c22) (by decide +kernel) rfl rfl rfl (by decide +kernel)
set_option maxRecDepth 65536 in
theorem w_c33 : (Jvm.Cond.code ({ cls := "EpidemicTrace", name := "draw", desc := "()I" } : Jvm.MethodName) prog_1_method_19_code (1 : Nat) (Option.some Jvm.ClassFile.FieldType.int)).before args0 about1 = true := code_word (m := ⟨2, 16⟩) (meth := k2m16) (c := k2c16) (by decide +kernel) rfl rfl rfl (by decide +kernel)
set_option maxRecDepth 65536 in
theorem w_c34 : (Jvm.Cond.code ({ cls := "EpidemicTrace", name := "trace", desc := "(I)V" } : Jvm.MethodName) prog_1_method_30_code (4 : Nat) (Option.none : Option Jvm.ClassFile.FieldType)).before args0 about1 = true := code_word (m := ⟨2, 27⟩) (meth := k2m27) (c := k2c27) (by decide +kernel) rfl rfl rfl (by decide +kernel)
def codes1 : List Jvm.Cond := [Jvm.Cond.code x code maxLocals ret, Jvm.Cond.code ({ cls := "EpidemicTraceOwnLaw", name := "cell", desc := "([II)I" } : Jvm.MethodName) method_2_code (2 : Nat) (Option.some Jvm.ClassFile.FieldType.int), Jvm.Cond.code ({ cls := "EpidemicTraceOwnLaw", name := "nn", desc := "(II)I" } : Jvm.MethodName) method_3_code (2 : Nat) (Option.some Jvm.ClassFile.FieldType.int), Jvm.Cond.code ({ cls := "EpidemicTrace", name := "<init>", desc := "(IIII)V" } : Jvm.MethodName) prog_1_method_1_code (6 : Nat) (Option.none : Option Jvm.ClassFile.FieldType), Jvm.Cond.code ({ cls := "java/lang/Object", name := "<init>", desc := "()V" } : Jvm.MethodName) object_method_1_code (1 : Nat) (Option.none : Option Jvm.ClassFile.FieldType), Jvm.Cond.code ({ cls := "EpidemicTrace", name := "clamp", desc := "(III)I" } : Jvm.MethodName) prog_1_method_17_code (4 : Nat) (Option.some Jvm.ClassFile.FieldType.int), Jvm.Cond.code ({ cls := "EpidemicTrace", name := "seedRandom", desc := "(I)V" } : Jvm.MethodName) prog_1_method_2_code (2 : Nat) (Option.none : Option Jvm.ClassFile.FieldType), Jvm.Cond.code ({ cls := "EpidemicTrace", name := "setCapacity", desc := "(I)I" } : Jvm.MethodName) prog_1_method_3_code (2 : Nat) (Option.some Jvm.ClassFile.FieldType.int), Jvm.Cond.code ({ cls := "EpidemicTrace", name := "count", desc := "(I)I" } : Jvm.MethodName) prog_1_method_16_code (2 : Nat) (Option.some Jvm.ClassFile.FieldType.int), Jvm.Cond.code ({ cls := "EpidemicTrace", name := "countCompartment", desc := "(I)I" } : Jvm.MethodName) prog_1_method_31_code (4 : Nat) (Option.some Jvm.ClassFile.FieldType.int), Jvm.Cond.code ({ cls := "EpidemicTrace", name := "countInfected", desc := "()I" } : Jvm.MethodName) prog_1_method_34_code (3 : Nat) (Option.some Jvm.ClassFile.FieldType.int), Jvm.Cond.code ({ cls := "EpidemicTrace", name := "compartment", desc := "(I)I" } : Jvm.MethodName) prog_1_method_8_code (2 : Nat) (Option.some Jvm.ClassFile.FieldType.int), Jvm.Cond.code ({ cls := "EpidemicTrace", name := "valid", desc := "(I)Z" } : Jvm.MethodName) prog_1_method_18_code (2 : Nat) (Option.some Jvm.ClassFile.FieldType.boolean), Jvm.Cond.code ({ cls := "EpidemicTrace", name := "source", desc := "(I)I" } : Jvm.MethodName) prog_1_method_12_code (2 : Nat) (Option.some Jvm.ClassFile.FieldType.int), Jvm.Cond.code ({ cls := "EpidemicTrace", name := "generation", desc := "(I)I" } : Jvm.MethodName) prog_1_method_14_code (2 : Nat) (Option.some Jvm.ClassFile.FieldType.int), Jvm.Cond.code ({ cls := "EpidemicTrace", name := "infectionDay", desc := "(I)I" } : Jvm.MethodName) prog_1_method_13_code (2 : Nat) (Option.some Jvm.ClassFile.FieldType.int), Jvm.Cond.code ({ cls := "EpidemicTrace", name := "secondaryCases", desc := "(I)I" } : Jvm.MethodName) prog_1_method_15_code (4 : Nat) (Option.some Jvm.ClassFile.FieldType.int), Jvm.Cond.code ({ cls := "EpidemicTrace", name := "infect", desc := "(I)Z" } : Jvm.MethodName) prog_1_method_5_code (2 : Nat) (Option.some Jvm.ClassFile.FieldType.boolean), Jvm.Cond.code ({ cls := "EpidemicTrace", name := "addEdge", desc := "(III)I" } : Jvm.MethodName) prog_1_method_4_code (5 : Nat) (Option.some Jvm.ClassFile.FieldType.int), Jvm.Cond.code ({ cls := "EpidemicTrace", name := "edgeExists", desc := "(II)Z" } : Jvm.MethodName) prog_1_method_20_code (6 : Nat) (Option.some Jvm.ClassFile.FieldType.boolean), Jvm.Cond.code ({ cls := "EpidemicTraceOwnLaw", name := "bit", desc := "(II)I" } : Jvm.MethodName) method_4_code (4 : Nat) (Option.some Jvm.ClassFile.FieldType.int), Jvm.Cond.code ({ cls := "EpidemicTrace", name := "requestTest", desc := "(I)Z" } : Jvm.MethodName) prog_1_method_6_code (2 : Nat) (Option.some Jvm.ClassFile.FieldType.boolean), Jvm.Cond.code ({ cls := "EpidemicTrace", name := "quarantineLeft", desc := "(I)I" } : Jvm.MethodName) prog_1_method_10_code (2 : Nat) (Option.some Jvm.ClassFile.FieldType.int), Jvm.Cond.code ({ cls := "EpidemicTrace", name := "run", desc := "(I)I" } : Jvm.MethodName) prog_1_method_7_code (4 : Nat) (Option.some Jvm.ClassFile.FieldType.int), Jvm.Cond.code ({ cls := "EpidemicTrace", name := "simulateDay", desc := "()V" } : Jvm.MethodName) prog_1_method_21_code (1 : Nat) (Option.none : Option Jvm.ClassFile.FieldType), Jvm.Cond.code ({ cls := "EpidemicTrace", name := "snapshot", desc := "()V" } : Jvm.MethodName) prog_1_method_22_code (2 : Nat) (Option.none : Option Jvm.ClassFile.FieldType), Jvm.Cond.code ({ cls := "EpidemicTrace", name := "transmit", desc := "()V" } : Jvm.MethodName) prog_1_method_24_code (4 : Nat) (Option.none : Option Jvm.ClassFile.FieldType), Jvm.Cond.code ({ cls := "EpidemicTrace", name := "canInfect", desc := "(II)Z" } : Jvm.MethodName) prog_1_method_23_code (3 : Nat) (Option.some Jvm.ClassFile.FieldType.boolean), Jvm.Cond.code ({ cls := "EpidemicTrace", name := "progress", desc := "()V" } : Jvm.MethodName) prog_1_method_26_code (2 : Nat) (Option.none : Option Jvm.ClassFile.FieldType), Jvm.Cond.code ({ cls := "EpidemicTrace", name := "quarantineTick", desc := "()V" } : Jvm.MethodName) prog_1_method_27_code (2 : Nat) (Option.none : Option Jvm.ClassFile.FieldType), Jvm.Cond.code ({ cls := "EpidemicTrace", name := "testing", desc := "()V" } : Jvm.MethodName) prog_1_method_28_code (3 : Nat) (Option.none : Option Jvm.ClassFile.FieldType), Jvm.Cond.code ({ cls := "EpidemicTrace", name := "testOne", desc := "(I)V" } : Jvm.MethodName) prog_1_method_29_code (2 : Nat) (Option.none : Option Jvm.ClassFile.FieldType), Jvm.Cond.code ({ cls := "EpidemicTrace", name := "tryInfect", desc := "(III)V" } : Jvm.MethodName) prog_1_method_25_code (5 : Nat) (Option.none : Option Jvm.ClassFile.FieldType), Jvm.Cond.code ({ cls := "EpidemicTrace", name := "draw", desc := "()I" } : Jvm.MethodName) prog_1_method_19_code (1 : Nat) (Option.some Jvm.ClassFile.FieldType.int), Jvm.Cond.code ({ cls := "EpidemicTrace", name := "trace", desc := "(I)V" } : Jvm.MethodName) prog_1_method_30_code (4 : Nat) (Option.none : Option Jvm.ClassFile.FieldType)]
set_option maxRecDepth 65536 in
theorem codes_eq : words1.filter isCode = codes1 := rfl
theorem w_codes : ∀ c ∈ words1.filter isCode, c.before args0 about1 = true := by
  rw [codes_eq]
  intro c hc
  simp only [codes1, List.mem_cons, List.not_mem_nil, or_false] at hc
  rcases hc with rfl | rfl | rfl | rfl | rfl | rfl | rfl | rfl | rfl | rfl | rfl | rfl | rfl | rfl | rfl | rfl | rfl | rfl | rfl | rfl | rfl | rfl | rfl | rfl | rfl | rfl | rfl | rfl | rfl | rfl | rfl | rfl | rfl | rfl | rfl
  · exact w_c0
  · exact w_c1
  · exact w_c2
  · exact w_c3
  · exact w_c4
  · exact w_c5
  · exact w_c6
  · exact w_c7
  · exact w_c8
  · exact w_c9
  · exact w_c10
  · exact w_c11
  · exact w_c12
  · exact w_c13
  · exact w_c14
  · exact w_c15
  · exact w_c16
  · exact w_c17
  · exact w_c18
  · exact w_c19
  · exact w_c20
  · exact w_c21
  · exact w_c22
  · exact w_c23
  · exact w_c24
  · exact w_c25
  · exact w_c26
  · exact w_c27
  · exact w_c28
  · exact w_c29
  · exact w_c30
  · exact w_c31
  · exact w_c32
  · exact w_c33
  · exact w_c34
set_option maxRecDepth 65536 in
theorem w_t1 : (words1.take 24).all (fun c => isCode c || c.before args0 about1) = true := by decide +kernel
set_option maxRecDepth 65536 in
theorem w_t2 : ((words1.drop 24).take 24).all (fun c => isCode c || c.before args0 about1) = true := by decide +kernel
set_option maxRecDepth 65536 in
theorem w_t3 : (((words1.drop 24).drop 24).take 24).all (fun c => isCode c || c.before args0 about1) = true := by decide +kernel
set_option maxRecDepth 65536 in
theorem w_t4 : ((((words1.drop 24).drop 24).drop 24).take 24).all (fun c => isCode c || c.before args0 about1) = true := by decide +kernel
set_option maxRecDepth 65536 in
theorem w_t5 : (((((words1.drop 24).drop 24).drop 24).drop 24).take 24).all (fun c => isCode c || c.before args0 about1) = true := by decide +kernel
set_option maxRecDepth 65536 in
theorem w_t6 : ((((((words1.drop 24).drop 24).drop 24).drop 24).drop 24).take 24).all (fun c => isCode c || c.before args0 about1) = true := by decide +kernel
set_option maxRecDepth 65536 in
theorem w_t7 : (((((((words1.drop 24).drop 24).drop 24).drop 24).drop 24).drop 24).take 24).all (fun c => isCode c || c.before args0 about1) = true := by decide +kernel
set_option maxRecDepth 65536 in
theorem w_t8 : ((((((((words1.drop 24).drop 24).drop 24).drop 24).drop 24).drop 24).drop 24).take 24).all (fun c => isCode c || c.before args0 about1) = true := by decide +kernel
set_option maxRecDepth 65536 in
theorem w_t9 : ((((((((words1.drop 24).drop 24).drop 24).drop 24).drop 24).drop 24).drop 24).drop 24).all (fun c => isCode c || c.before args0 about1) = true := by decide +kernel
theorem w_tables : (allAtoms (Jvm.Cond.code x code maxLocals ret :: tables_1)).before args0 about1 = true := by
  rw [allAtoms_all]
  show words1.all (fun c => c.before args0 about1) = true
  refine all_split ?_ w_codes
  rw [← List.take_append_drop 24 words1, List.all_append, w_t1, ← List.take_append_drop 24 (words1.drop 24), List.all_append, w_t2, ← List.take_append_drop 24 ((words1.drop 24).drop 24), List.all_append, w_t3, ← List.take_append_drop 24 (((words1.drop 24).drop 24).drop 24), List.all_append, w_t4, ← List.take_append_drop 24 ((((words1.drop 24).drop 24).drop 24).drop 24), List.all_append, w_t5, ← List.take_append_drop 24 (((((words1.drop 24).drop 24).drop 24).drop 24).drop 24), List.all_append, w_t6, ← List.take_append_drop 24 ((((((words1.drop 24).drop 24).drop 24).drop 24).drop 24).drop 24), List.all_append, w_t7, ← List.take_append_drop 24 (((((((words1.drop 24).drop 24).drop 24).drop 24).drop 24).drop 24).drop 24), List.all_append, w_t8, w_t9]
  rfl
set_option maxRecDepth 65536 in
theorem w_rest : rest_1_c.before args0 about1 = true := by decide +kernel
set_option maxRecDepth 65536 in
theorem w_case : (Jvm.Cond.and given_1 narrow_1).before args0 about1 = true := by decide +kernel
theorem w_applies : (headSpec (Jvm.Cond.code x code maxLocals ret :: tables_1) room_1).applies x e0.platform about1 = true :=
  (Spec.applies_iff w_frames).mpr ⟨w_running, w_runnable, w_alone, w_named, w_hears, w_ripe, w_room, w_tables⟩
theorem atStart : AtStart classFile x code maxLocals ret World_1 tables_1 room_1 Calls_1 rest_1 Pre_1 launch0 p0 e0 about1 theMethod args0 below0 :=
  ⟨lists_1, trivial, launch0.admits_env _ _ _, launch0.least_env, fairChoices_fair.cas, fairChoices_fair.clock, w_frames, w_args, w_heap, w_applies, trivial, w_rest, w_case⟩
end start1
theorem witness_1 : WitnessClaimed_1 := ⟨start1.p0, start1.e0, start1.about1, start1.theMethod, start1.args0, start1.below0, start1.atStart⟩
end Jvm.Pilot.@@N@@
