import PyProof.Rows.All
import Wide.All
import OpenK.AllK
import Wide.FinOn
import HandS.ForMost
import HandS.TupAny
import HandS.Wide
import KE.DataMinMax
import HandS.Deep
import HandS.Strs
import HandS.SortInts
import HandS.Conv
import HandS.Text
import HandS.Style
import HandS.Flow
import KE.SortData
import PyProof.StrOps2
import PyProof.SumAny
import HandS.Dict
import HandS.DictComp
import HandS.WordsDict
import HandS.TupLen
import HandS.More
import HandS.ListItems
import PyProof.WalksMore
import HandS.Nested
import HandS.ExcOwn
import HandS.TryMany
import HandS.WordsExc
import HandS.ExcCtx
import HandS.SuiteRaise
import HandS.NoneIn
import HandS.Iter
import HandS.Zip
import HandS.Rev
import HandS.GenOver
import PyProof.GenQ
import HandS.Small
import HandS.HeadHook4
import HandS.HeadWalk
import KE.GoesMore
import KE.GoesEnum
import HandS.Flt
import HandS.RevTup
import PyProof.ExcBaseAll.ValueError
import KE.KDictKeyed
import KE.DataMinKey
import HandS.SortKw
import KE.SortKeyHeap
import KE.FramesApart
import HandS.Keys
import KE.KDictPairs
import KE.KDictList
import KE.KDictItemsList
import HandS.ExcValue
import KE.KDictExact
import PyProof.TupleOfGen
import HandS.TupMul
import KE.KDictZip
import HandS.Sort
import HandS.TupLe
import HandS.RaiseMore
import KE.KEqNest
import PyProof.CollectStr
import PyProof.StrOps
import PyProof.JoinWalk
import PyProof.Rows.StrJoin2
import PyProof.StrCalls6
import PyProof.Draws
import PyProof.EnumMake
import KE.KSuper
import KE.KExcSuper
import HandS.ExcInit
import HandS.ExcSuper
import HandS.ExcInitHot
import HandS.ExcField
import KE.KStateDown
import HandS.Head0
import HandS.Head1
import HandS.Head2
import HandS.HeadEnd
import HandS.HeadHook1
import HandS.HeadHook2
import HandS.ExcIs
import PySem.Challenge.RW_pavehall_k21_refusals_apart
set_option Elab.async false
set_option linter.all false
set_option maxRecDepth 100000
set_option maxHeartbeats 8100000
/-! part PV0 -/
/-! PV0: raw rules: texts repeated; in, index of tuples; sorted of data; ranges. -/
namespace RT
open PySem PySem.W PySem.Spec PyProof.Rows L2
section
variable {X : Cx}
def repS (a : Str) (n : Nat) : Str := ⟨(List.replicate n a.cps).foldl (· ++ ·) #[]⟩
theorem repS_size (a : Str) (n : Nat) : (repS a n).length = n * a.length := by
  unfold repS
  show ((List.replicate n a.cps).foldl (· ++ ·) #[]).size = _
  have key : ∀ (n : Nat) (b : Array Nat), ((List.replicate n a.cps).foldl (· ++ ·) b).size = b.size + n * a.length := by
    intro n
    induction n with
    | zero => intro b; simp
    | succ n ih =>
      intro b
      rw [List.replicate_succ, List.foldl_cons, ih, Array.size_append, Nat.succ_mul]
      show b.size + a.length + _ = _
      omega
  rw [key]
  simp
theorem repS_one (a : Str) : repS a 1 = a := by
  unfold repS
  simp
theorem repS_empty {a : Str} (h : a.length = 0) (n : Nat) : repS a n = a := by
  have e : a.cps = #[] := Array.eq_empty_of_size_eq_zero h
  unfold repS
  rw [e]
  have key : ∀ n : Nat, (List.replicate n (#[] : Array Nat)).foldl (· ++ ·) #[] = #[] := by
    intro n
    induction n with
    | zero => rfl
    | succ n ih => rw [List.replicate_succ, List.foldl_cons]; simpa using ih
  rw [key, ← e]
def rRepS : R2 := fun x y H Q => ∃ a k, x = .str a ∧ y = .int k ∧ (-(2 ^ 62) < k ∧ k < 2 ^ 62) ∧ a.length * k.toNat ≤ 16777216 ∧ Q (.str (repS a k.toNat)) H
theorem op_repS : OpR X (binaryOp .Mult) rRepS := by
  intro pins s σ H x y v u Q I rx ry h
  obtain ⟨a, k, rfl, rfl, ⟨k1, k2⟩, hl, q⟩ := h
  obtain ⟨t, rfl⟩ := rx
  obtain ⟨t', rfl⟩ := ry
  refine PySem.P.mul_str ?_ ?_ ?_ ?_
  · rw [decide_eq_false (by omega), decide_eq_false (by omega)]; rfl
  · intro h1 h2 h3
    have hk : 0 < k := by omega
    have e1 : (a.length : Int) * k ≤ 16777216 := by
      have h5 : (((a.length * k.toNat : Nat)) : Int) ≤ 16777216 := Int.ofNat_le.mpr hl
      rw [Int.natCast_mul, Int.toNat_of_nonneg (by omega)] at h5
      exact h5
    have h4 : (a.length : Int) ≤ (2 ^ 63 - 1) / k := (Int.le_ediv_iff_mul_le hk).mpr (by omega)
    omega
  · intro h1 h2
    unfold Builtin.Str.tooLong
    rw [decide_eq_false_iff_not, sizeLine_eq]
    omega
  · split
    · rename_i c
      refine ⟨by decide, ⟨.str Str.empty, H, I.tok _, ⟨_, rfl⟩, ?_⟩⟩
      have e : k.toNat = 0 := by omega
      rw [e] at q
      exact q
    · rename_i c
      split
      · rename_i c2
        simp only [Bool.or_eq_true, beq_iff_eq] at c2
        have e : repS a k.toNat = a := by
          rcases c2 with c2 | c2
          · rw [c2]; exact repS_one a
          · exact repS_empty c2 _
        rw [e] at q
        exact ⟨.str a, H, I, ⟨_, rfl⟩, q⟩
      · refine ⟨?_, ⟨.str (repS a k.toNat), H, I.tok _, ⟨_, rfl⟩, q⟩⟩
        show (repS a k.toNat).length ≤ _
        rw [repS_size, sizeLine_eq, Nat.mul_comm]
        exact hl
/-! in, of tuples -/
def rInT (K : PySem.W.Frag) : R2 := fun x y H Q => ∃ d ds, Dp K H x d ∧ Dp K H y (.tuple ds) ∧ SeqAt.shaped d = true ∧ SeqAt.shaped (.tuple ds) = true ∧ Q (.bl (ds.any fun z => PyData.eqv z d)) H
def rNotInT (K : PySem.W.Frag) : R2 := fun x y H Q => ∃ d ds, Dp K H x d ∧ Dp K H y (.tuple ds) ∧ SeqAt.shaped d = true ∧ SeqAt.shaped (.tuple ds) = true ∧ Q (.bl (!ds.any fun z => PyData.eqv z d)) H
theorem op_inT (hu : X.A.units + 80 < cLine) : OpR X (compareOp .In) (rInT X.K) := by
  intro pins s σ H x y v u Q I rx ry h
  obtain ⟨d, ds, hd, he, sd, se, q⟩ := h
  obtain ⟨as, r1⟩ := Dp.reads I d x v hd rx
  obtain ⟨bs, r2⟩ := Dp.reads I (.tuple ds) y u he ry
  exact SeqAt.in_tuple_reads r2 r1 (SeqAt.canLay_of_shaped (d := .tuple ds) se) (SeqAt.canLay_of_shaped sd) (room_in_shaped sd (by omega)) ⟨.bl _, H, I, rfl, q⟩
theorem op_notInT (hu : X.A.units + 80 < cLine) : OpR X (compareOp .NotIn) (rNotInT X.K) := by
  intro pins s σ H x y v u Q I rx ry h
  obtain ⟨d, ds, hd, he, sd, se, q⟩ := h
  obtain ⟨as, r1⟩ := Dp.reads I d x v hd rx
  obtain ⟨bs, r2⟩ := Dp.reads I (.tuple ds) y u he ry
  exact SeqAt.notIn_tuple_reads r2 r1 (SeqAt.canLay_of_shaped (d := .tuple ds) se) (SeqAt.canLay_of_shaped sd) (room_in_shaped sd (by omega)) ⟨.bl _, H, I, rfl, q⟩
/-! t.index(x) -/
def rIndexT (K : PySem.W.Frag) : V → List V → Hp → VK → Prop := fun x xs H Q => ∃ (a : Addr) (y : V) (d : PyData) (ds : List PyData) (j : Nat) (z : PyData), x = V.ref a ∧ xs = [y] ∧ Dp K H (V.ref a) (.tuple ds) ∧ Dp K H y d ∧
  SeqAt.shaped (.tuple ds) = true ∧ SeqAt.shaped d = true ∧ ds[j]? = some z ∧ PyData.eqv z d = true ∧ (∀ (m : Nat) (z' : PyData), m < j → ds[m]? = some z' → PyData.eqv z' d = false) ∧ Q (.int (j : Nat)) H
/-! sorted(xs) of data that stands in order -/
def rSortD (K : PySem.W.Frag) : List V → Hp → VK → Prop := fun vs H Q => ∃ (a : Addr) (xs : List V) (ps : List PyData), vs = [.ref a] ∧ (SqL K H a xs ∨ SqT K H a xs) ∧ DpAll K H xs ps ∧ AllAlike ps ∧ Sortable ps ∧ PyData.depthAll ps ≤ 16 ∧
  ∀ q, H q = none → Q (.ref q) (upd H q (.lst (((xs.zip ps).mergeSort (dataLe false (·.2))).map (·.1))))
/-! dicts -/
def rDIn : R2 := fun x y H Q => ∃ a o, y = .ref a ∧ DGet H a x o ∧ Q (.bl o.isSome) H
def rDNotIn : R2 := fun x y H Q => ∃ a o, y = .ref a ∧ DGet H a x o ∧ Q (.bl (!o.isSome)) H
theorem op_dinO (hu : X.A.units + 80 < cLine) : OpR X (compareOp .In) rDIn := by
  intro pins s σ H x y v u Q I rx ry h
  obtain ⟨a, o, rfl, g, q⟩ := h
  obtain rfl : u = Value.ref a := ry
  exact d_in (by omega) I g rx fun s3 I3 => ⟨.bl o.isSome, H, I3, rfl, q⟩
theorem op_dnotinO (hu : X.A.units + 80 < cLine) : OpR X (compareOp .NotIn) rDNotIn := by
  intro pins s σ H x y v u Q I rx ry h
  obtain ⟨a, o, rfl, g, q⟩ := h
  obtain rfl : u = Value.ref a := ry
  exact d_notIn (by omega) I g rx fun s3 I3 => ⟨.bl (!o.isSome), H, I3, rfl, q⟩
def rIxD : R2 := fun x y H Q => ∃ a v, x = .ref a ∧ DGet H a y (some v) ∧ Q v H
theorem ix_dict (hu : X.A.units + 80 < cLine) : IxR X rIxD := by
  intro value slice pins s σ H x y v u Q I rx ry h hs
  obtain ⟨a, z, rfl, g, q⟩ := h
  obtain rfl : v = Value.ref a := rx
  have hT := dict_typeIs I g
  unfold subscriptTail
  refine wpAny_bind ?_
  rw [getitemInPython_of_ne hT.not_modules]
  refine wpAny_bind (wpAny_specialOf hT PySem.F.slot_dict_getitem.lookup ?_)
  have fin : wpAny (model X.prog X.w) X.A (subscripted slice false (.ref a) u) (fun r s₃ => wpAny (model X.prog X.w) X.A (letTemporaryGo value (.ref a) r >>= fun _ => pure r) (EP X pins σ Q) X.xe s₃) X.xe s := by
    rw [hs]
    exact wpAny_operating (d_getItem (by omega) I g ry fun w' s3 I3 rw' => wpAny_bind (wpAny_letTemporaryGo (wpAny_pure ⟨z, H, I3, rw', q⟩)))
  first
    | exact wpAny_pure (wpAny_bind fin)
    | exact wpAny_bind (wpAny_pure (wpAny_bind fin))
    | exact wpAny_bind fin
def rEqDic : R2 := fun x y H Q => ∃ a b ks ls, x = .ref a ∧ y = .ref b ∧ Rd H a (.dK ks) ∧ Rd H b (.dK ls) ∧ ks.length = ls.length ∧ (∀ p ∈ ks, valV ls p.1 = some p.2 ∧ flatB p.2 = true) ∧ Q (.bl true) H
def rNeDic : R2 := fun x y H Q => ∃ a b ks ls, x = .ref a ∧ y = .ref b ∧ Rd H a (.dK ks) ∧ Rd H b (.dK ls) ∧ ks.length = ls.length ∧ (∀ p ∈ ks, valV ls p.1 = some p.2 ∧ flatB p.2 = true) ∧ Q (.bl false) H
theorem op_eqDic (hu : X.A.units + 80 < cLine) : OpR X (compareOp .Eq) rEqDic := by
  intro pins s σ H x y v u Q I rx ry h
  obtain ⟨a, b, ks, ls, rfl, rfl, ea, eb, hlen, hp, q⟩ := h
  obtain rfl : v = Value.ref a := rx
  obtain rfl : u = Value.ref b := ry
  obtain ⟨_, ya, va, ra, da⟩ := (show ObjOk X.prog X.w H s.heap a (.dK ks) from ea.ok I.hok)
  obtain ⟨_, yb, vb, rb, db⟩ := (show ObjOk X.prog X.w H s.heap b (.dK ls) from eb.ok I.hok)
  have hl : va.length = vb.length := by rw [← ra.length, ← rb.length]; exact hlen
  exact PySem.W.keq_eq (knd := mixKind X.prog X.w) (r := true) ya yb da db (by omega) (fun _ => hits_all rb ra hp) (fin_bl I q (by simp [hl]))
theorem op_neDic (hu : X.A.units + 80 < cLine) : OpR X (compareOp .NotEq) rNeDic := by
  intro pins s σ H x y v u Q I rx ry h
  obtain ⟨a, b, ks, ls, rfl, rfl, ea, eb, hlen, hp, q⟩ := h
  obtain rfl : v = Value.ref a := rx
  obtain rfl : u = Value.ref b := ry
  obtain ⟨_, ya, va, ra, da⟩ := (show ObjOk X.prog X.w H s.heap a (.dK ks) from ea.ok I.hok)
  obtain ⟨_, yb, vb, rb, db⟩ := (show ObjOk X.prog X.w H s.heap b (.dK ls) from eb.ok I.hok)
  have hl : va.length = vb.length := by rw [← ra.length, ← rb.length]; exact hlen
  exact PySem.W.keq_ne (knd := mixKind X.prog X.w) (r := true) ya yb da db (by omega) (fun _ => hits_all rb ra hp) (fin_bl I q (by simp [hl]))
/-! .. of unlike sizes -/
def rEqDicN : R2 := fun x y H Q => ∃ a b ks ls, x = .ref a ∧ y = .ref b ∧ Rd H a (.dK ks) ∧ Rd H b (.dK ls) ∧ ks.length ≠ ls.length ∧ Q (.bl false) H
def rNeDicN : R2 := fun x y H Q => ∃ a b ks ls, x = .ref a ∧ y = .ref b ∧ Rd H a (.dK ks) ∧ Rd H b (.dK ls) ∧ ks.length ≠ ls.length ∧ Q (.bl true) H
theorem op_eqDicN (hu : X.A.units + 80 < cLine) : OpR X (compareOp .Eq) rEqDicN := by
  intro pins s σ H x y v u Q I rx ry h
  obtain ⟨a, b, ks, ls, rfl, rfl, ea, eb, hlen, q⟩ := h
  obtain rfl : v = Value.ref a := rx
  obtain rfl : u = Value.ref b := ry
  obtain ⟨_, ya, va, ra, da⟩ := (show ObjOk X.prog X.w H s.heap a (.dK ks) from ea.ok I.hok)
  obtain ⟨_, yb, vb, rb, db⟩ := (show ObjOk X.prog X.w H s.heap b (.dK ls) from eb.ok I.hok)
  have hl : va.length ≠ vb.length := by rw [← ra.length, ← rb.length]; exact hlen
  exact PySem.W.keq_eq (knd := mixKind X.prog X.w) (r := true) ya yb da db (by omega) (fun e => absurd e hl) (fin_bl I q (by simp [hl]))
theorem op_neDicN (hu : X.A.units + 80 < cLine) : OpR X (compareOp .NotEq) rNeDicN := by
  intro pins s σ H x y v u Q I rx ry h
  obtain ⟨a, b, ks, ls, rfl, rfl, ea, eb, hlen, q⟩ := h
  obtain rfl : v = Value.ref a := rx
  obtain rfl : u = Value.ref b := ry
  obtain ⟨_, ya, va, ra, da⟩ := (show ObjOk X.prog X.w H s.heap a (.dK ks) from ea.ok I.hok)
  obtain ⟨_, yb, vb, rb, db⟩ := (show ObjOk X.prog X.w H s.heap b (.dK ls) from eb.ok I.hok)
  have hl : va.length ≠ vb.length := by rw [← ra.length, ← rb.length]; exact hlen
  exact PySem.W.keq_ne (knd := mixKind X.prog X.w) (r := true) ya yb da db (by omega) (fun e => absurd e hl) (fin_bl I q (by simp [hl]))
/-- len(d) -/
theorem call_lenRd : CallR X (.builtin "len") (fun xs H Q => ∃ a kvs, xs = [V.ref a] ∧ Rd H a (.dK kvs) ∧ Q (.int kvs.length) H) := by
  intro pins s σ H xs us Q I r h
  obtain ⟨a, kvs, rfl, ha, q⟩ := h
  obtain ⟨u, rfl, ru⟩ := vals1 r
  cases ru
  exact d_len I ha fun t s' I' => ⟨.int kvs.length, H, I', ⟨t, rfl⟩, q⟩
theorem call_lenRdT : CallR X (.builtin "len") (fun xs H Q => ∃ a kvs, xs = [V.ref a] ∧ Rd H a (.dT kvs) ∧ Q (.int kvs.length) H) := by
  intro pins s σ H xs us Q I r h
  obtain ⟨p, kvs, rfl, hp, q⟩ := h
  obtain ⟨u, rfl, rx⟩ := vals1 r
  obtain rfl : u = .ref p := rx
  obtain ⟨z, hd, ys, rel, dd⟩ := dt_rd I.hok hp
  have hl : kvs.length = ys.length := Paired.length rel
  refine call_len_dictH hd dd (by rw [← hl]; rw [sizeLine_eq] at z; omega) ?_
  rw [← hl]
  exact ⟨.int kvs.length, H, I.tok _, ⟨_, rfl⟩, q⟩
/-! ranges -/
def rngN (i j c : Int) : Nat := if 0 < c then (if i < j then ((j - i - 1) / c + 1).toNat else 0) else (if j < i then ((i - j - 1) / (-c) + 1).toNat else 0)
def rangeC (i c : Int) (n : Nat) : List Int := (List.range n).map fun (k : Nat) => i + (k : Int) * c
def RgC3 (i j c : Int) : Prop := (0 < c ∨ c = -1) ∧ c < 1073741824 ∧ -(2 ^ 61) ≤ i ∧ i < 2 ^ 61 ∧ -(2 ^ 61) ≤ j ∧ j < 2 ^ 61 ∧ rngN i j c ≤ 16777216
def tLrg3 (ta : TA) : TE := fun σ H Q => ta σ H fun vs H1 => ∃ i j c, vs = [.int i, .int j, .int c] ∧ RgC3 i j c ∧ ∀ q, H1 q = none → Q (.ref q) (upd H1 q (.lst ((rangeC i c (rngN i j c)).map .int)))
def tTrg3 (ta : TA) : TE := fun σ H Q => ta σ H fun vs H1 => ∃ i j c, vs = [.int i, .int j, .int c] ∧ RgC3 i j c ∧ ∀ q, H1 q = none → Q (.ref q) (upd H1 q (.tup ((rangeC i c (rngN i j c)).map .int)))
def tLrg2 (ta : TA) : TE := fun σ H Q => ta σ H fun vs H1 => ∃ i j, vs = [.int i, .int j] ∧ RgC3 i j 1 ∧ ∀ q, H1 q = none → Q (.ref q) (upd H1 q (.lst ((rangeC i 1 (rngN i j 1)).map .int)))
def tSrg2 (ta : TA) : TE := fun σ H Q => ta σ H fun vs H1 => ∃ i j, vs = [.int i, .int j] ∧ RgC3 i j 1 ∧ Q (.int (rangeC i 1 (rngN i j 1)).sum) H1
section
variable {a b c : Expr} {ta : TA} {p p2 pos pos2 : Pos}
end
end
end RT

/-! part PV1 -/
/-! PV1: plain data, the small language, its evaluator. -/
noncomputable section
namespace PV
open PySem

/-- a key: an int or a text -/
abbrev Ky := Int ⊕ Str
/-- plain data -/
inductive D where
  | non | bl (b : Bool) | int (i : Int) | str (x : Str)
  | tup (ds : List D) | lst (ds : List D) | dic (kvs : List (Ky × D)) | dit (kvs : List (List Ky × D))
  | ins (c : Nat) (fs : List D) | ref (n : Nat) | tx (ds : List D)
  deriving Inhabited

/-- what the store holds: a list, an instance -/
inductive Nd where
  | nl (ds : List D) | ni (c : Nat) (fs : List (Nat × D)) | nk (c : Nat) (fs : List (Nat × D)) | nd (kvs : List (Ky × D))
  deriving Inhabited
abbrev Sto := List Nd
/-- what a run gives -/
inductive R (α : Type) where
  | ok (a : α) (s : Sto) | ex (c : Nat) (p : D) (s : Sto) | no
def M (α : Type) := Sto → R α
def M.pure {α : Type} (a : α) : M α := fun s => .ok a s
def M.bind {α β : Type} (m : M α) (f : α → M β) : M β := fun s => match m s with
  | .ok a s1 => f a s1
  | .ex c p s1 => .ex c p s1
  | .no => .no
instance : Monad M where
  pure := M.pure
  bind := M.bind
def no {α : Type} : M α := fun _ => .no
def raise {α : Type} (c : Nat) (p : D) : M α := fun s => .ex c p s
/-- no exception may leave -/
def calm {α : Type} (m : M α) : M α := fun s => match m s with
  | .ok a s1 => .ok a s1
  | _ => .no

/-- how a value is held: frozen; new, of items that hold nothing; new, one's own down to a level; a place's own -/
inductive Kd where
  | fz | an | fr (l : Nat) | bo (l : Nat) | lk
  deriving DecidableEq, Inhabited
abbrev KD := Kd × D
def isC : D → Bool
  | .lst _ => true
  | .dic _ => true
  | .dit _ => true
  | _ => false
def isR : D → Bool
  | .ref _ => true
  | _ => false
abbrev Env := List (Option (Nat × D))
/-- a name is read -/
def readK (l : Nat) (d : D) : KD := if l = 0 ∨ isC d = false then (.fz, d) else (.bo l, d)
/-- the value may be kept by another -/
def keepB : Kd → Bool
  | .bo _ => false
  | .lk => false
  | _ => true
def keep (x : KD) : M D := if keepB x.1 then pure x.2 else no
/-- .. in a list, a tuple, a field: no object of the store's -/
def putB (x : KD) : Bool := keepB x.1 && !isR x.2
def put (x : KD) : M D := if putB x then pure x.2 else no
/-- its items may be kept by another -/
def viewB : Kd → Bool
  | .bo l => decide (l ≤ 1)
  | _ => true
/-- it may be walked, a dict -/
def walkB : Kd → Bool
  | .bo _ => false
  | _ => true
def view (x : KD) : M D := if viewB x.1 then pure x.2 else no
/-- .. as an item of a list whose items are one's own down to a level -/
def putLB (l : Nat) (x : KD) : Bool := !isR x.2 && (keepB x.1 && (l == 0 || !isC x.2) || (x.1 == .an || x.1 == .fr l) && l != 0)
def putL (l : Nat) (x : KD) : M D := if putLB l x then pure x.2 else no
def keepsB (xs : List KD) : Bool := xs.all putB
def keeps (xs : List KD) : M (List D) := if keepsB xs then pure (xs.map (·.2)) else no
def argsB (xs : List KD) : Bool := xs.all fun x => keepB x.1
def args (xs : List KD) : M (List D) := if argsB xs then pure (xs.map (·.2)) else no
/-- a new list of such items -/
def newK (xs : List KD) : Kd := if xs.all fun x => !isC x.2 then .an else .fr 1

inductive Tg where
  | nm (i : Nat) | tp (ts : List Tg)
  deriving Inhabited
mutual
def tgV : Tg → List Nat
  | .nm i => [i]
  | .tp ts => tgVs ts
def tgVs : List Tg → List Nat
  | [] => []
  | t :: ts => tgV t ++ tgVs ts
end
mutual
def bindT : Tg → D → Env → Option Env
  | .nm i, d, ρ => some (ρ.set i (some (0, d)))
  | .tp ts, .tup ds, ρ => bindTs ts ds ρ
  | .tp ts, .lst ds, ρ => bindTs ts ds ρ
  | _, _, _ => none
def bindTs : List Tg → List D → Env → Option Env
  | [], [], ρ => some ρ
  | t :: ts, d :: ds, ρ => (bindT t d ρ).bind fun ρ1 => bindTs ts ds ρ1
  | _, _, _ => none
end

/-- slots forgotten -/
def wipeE (ρ : Env) : List Nat → Env
  | [] => ρ
  | v :: vs => (wipeE ρ vs).set v none

inductive Ik where
  | seq | rng | enm | zp | itm | vls | rev | chr | rg3 | kst | zps | enc
  deriving DecidableEq, Inhabited
/-- built-in functions -/
inductive Bi where
  | len | abs | int | str | list | tuple | dict | sum | min | max | min2 | max2 | sorted | sortedR | min3 | max3 | tupRev | lrg | lstDict | lenDict | lrg2 | trg | srg2 | dictOf | trg1 | lstVals | lstItems | maxd | trepx | neT | inT | ninT | getT | idxT | dictOfT | dnewT | eqS | ltT | dlitT | revS | srtT | srtIT | intS
  deriving DecidableEq, Inhabited
/-- methods of lists, texts, dicts -/
inductive Mth where
  | index | join | get | count | cntS | rplS
  deriving DecidableEq, Inhabited
inductive Gk where
  | any | all | sum
  deriving DecidableEq, Inhabited

/-- the program around: module constants, defs (by number), classes -/
structure Pr where
  con : Nat → Option D
  prim : Nat → M D
  fn : Nat → List D → M D
  new : Nat → List D → M D
  hd : Nat → Nat → Option D
  nm : Nat := 0

inductive E where
  | lit (d : D)
  | var (i : Nat)
  | gcon (k : Nat)
  | bin (o : Operator) (a b : E)
  | neg (a : E) | nt (a : E)
  | an (a b : E) | orr (a b : E)
  | ite (c a b : E)
  | cmp (o : CmpOp) (a b : E)
  | cmp3 (a : E) (o1 : CmpOp) (b : E) (o2 : CmpOp) (c : E)
  | cmp4 (a : E) (o1 : CmpOp) (b : E) (o2 : CmpOp) (c : E) (o3 : CmpOp) (d : E)
  | tup (es : List E) | lst (es : List E)
  | idx (a i : E) | slc (a : E) (lo hi : Option E)
  | call (f : Nat) (es : List E) | make (c : Nat) (es : List E) | meth (c m : Nat) (o : E) (es : List E)
  | bi (b : Bi) (es : List E)
  | fld (c : Nat) (o : E) (k : Nat)
  | lc (elt : E) (tg : Tg) (ik : Ik) (src ifs : List E)
  | gen (g : Gk) (elt : E) (tg : Tg) (ik : Ik) (src ifs : List E)
  | mc (m : Mth) (o : E) (es : List E)
  | mink (f a : E)
  | minkd (f a : E)
  | minkw (f a : E)
  | lc2 (elt : E) (tg : Tg) (ik : Ik) (src ifs : List E) (tg1 : Tg) (ik1 : Ik) (src1 ifs1 : List E)
  | gen2 (elt : E) (tg : Tg) (ik : Ik) (src ifs : List E) (tg1 : Tg) (ik1 : Ik) (src1 ifs1 : List E)
  | sortk (rg : Bool) (f a : E)
  | tupx (e : E) | unx (e : E) | ixt (o e : E)
  | dlit (ks : List Ky) (es : List E)
  | dictC (k : Nat)
  | told (h : Nat) (e : E)
  | prim (k : Nat)
  | wl (i : Nat) (e : E)
  | ld (i : Nat)
  | sums (i j : Nat)
  | wlv (i : Nat) (e : E)
  | sem (f : Pr → Env → M KD)
  deriving Inhabited

/-! ### data operations -/
mutual
def toP : D → Option PyData
  | .non => some .none
  | .bl b => some (.bool b)
  | .int i => some (.int i)
  | .str x => some (.str x)
  | .tup ds => (toPs ds).map .tuple
  | .lst ds => (toPs ds).map .list
  | _ => none
def toPs : List D → Option (List PyData)
  | [] => some []
  | d :: ds => match toP d, toPs ds with
    | some x, some xs => some (x :: xs)
    | _, _ => none
end
def eqD (a b : D) : Option Bool := match toP a, toP b with
  | some x, some y => if SeqAt.shaped x && SeqAt.shaped y then some (PyData.eqv x y) else none
  | _, _ => none
def ofO {α : Type} : Option α → M α
  | some a => pure a
  | none => no
def mulOk (i j : Int) : Bool := decide ((-(2 ^ 64) < i ∧ i < 2 ^ 64) ∨ (-(2 ^ 64) < j ∧ j < 2 ^ 64))
def divOk (j : Int) : Bool := decide (0 < j ∧ j < 1073741824)
def powOk (i j : Int) : Bool := decide (0 ≤ j ∧ j ≤ 1000000 ∧ i.natAbs < 2 ^ 64)
def szOk (n : Nat) : Bool := decide (n ≤ 16777216)
/-- a o b -/
def binD (o : Operator) (x y : KD) : M KD := match o, x.2, y.2 with
  | .Add, .int i, .int j => pure (.fz, .int (i + j))
  | .Sub, .int i, .int j => pure (.fz, .int (i - j))
  | .Mult, .int i, .int j => if mulOk i j then pure (.fz, .int (i * j)) else no
  | .FloorDiv, .int i, .int j => if divOk j then pure (.fz, .int (i / j)) else no
  | .Mod, .int i, .int j => if 0 < j then pure (.fz, .int (i % j)) else no
  | .Pow, .int i, .int j => if powOk i j then pure (.fz, .int (i ^ j.toNat)) else no
  | .Add, .str a, .str b => if szOk (a.length + b.length) then pure (.fz, .str (a ++ b)) else no
  | .Mult, .str a, .int k => if decide (k < 2 ^ 62 ∧ -(2 ^ 62) < k) && szOk (a.length * k.toNat) then pure (.fz, .str (RT.repS a k.toNat)) else no
  | .Add, .lst as, .lst bs => if viewB x.1 && viewB y.1 && szOk (as.length + bs.length) then pure (.fr 1, .lst (as ++ bs)) else no
  | .Add, .tup as, .tup bs => if szOk (as.length + bs.length) then pure (.fz, .tup (as ++ bs)) else no
  | .Mult, .lst as, .int k => if viewB x.1 && decide (k < 2 ^ 62 ∧ -(2 ^ 62) < k) && szOk (as.length * k.toNat) then pure (.fr 1, .lst (List.replicate k.toNat as).flatten) else no
  | _, _, _ => no
def keyO : D → Option Ky
  | .int i => some (.inl i)
  | .str x => some (.inr x)
  | _ => none
def keysO : List D → Option (List Ky)
  | [] => some []
  | d :: ds => match keyO d, keysO ds with
    | some k, some ks => some (k :: ks)
    | _, _ => none
/-- a key's value -/
def getK {κ : Type} [DecidableEq κ] (k : κ) (kvs : List (κ × D)) : Option D := (kvs.find? fun kv => decide (kv.1 = k)).map (·.2)
def dicGet (kvs : List (Ky × D)) (i : D) : Option (Option D) := (keyO i).map fun k => getK k kvs
def ditGet (kvs : List (List Ky × D)) (i : D) : Option (Option D) := match i with
  | .tup ds => (keysO ds).map fun k => getK k kvs
  | _ => none
/-- is z one of them -/
def inDs (z : D) : List D → Option Bool
  | [] => some false
  | d :: ds => match eqD d z, inDs z ds with
    | some a, some b => some (a || b)
    | _, _ => none
def isNonD : D → Bool
  | .non => true
  | _ => false
/-- a in b -/
def inSeq (a : D) (ds : List D) : Option Bool := match toP a, toPs ds with
  | some p, some ps => if SeqAt.shaped p && SeqAt.shaped (.list ps) then some (ps.any fun z => PyData.eqv z p) else none
  | _, _ => none
def inD (a b : D) : Option Bool := match b with
  | .lst ds => inSeq a ds
  | .tup ds => inSeq a ds
  | .str z => match a with
    | .str x => match x.cps.toList with
      | [c] => some (decide (c ∈ z.cps.toList))
      | _ => none
    | _ => none
  | .dic kvs => (dicGet kvs a).map (·.isSome)
  | _ => none
/-- flat data, for dicts that are compared -/
def flatD : D → Bool
  | .non => true
  | .bl _ => true
  | .int _ => true
  | .str _ => true
  | _ => false
/-- two dicts alike: the same keys, the same flat values -/
def sameF : Option D → D → Bool
  | some (.int i), .int j => decide (i = j)
  | some (.str i), .str j => decide (i = j)
  | some (.bl i), .bl j => decide (i = j)
  | some .non, .non => true
  | _, _ => false
def sameDic (as bs : List (Ky × D)) : Bool := decide (as.length = bs.length) && as.all fun p => flatD p.2 && sameF (getK p.1 bs) p.2
/-- dicts compared: alike, or one of them empty -/
def eqDic : D → D → Option Bool
  | .dic as, .dic bs => if as.length = bs.length then (if sameDic as bs then some true else none) else some false
  | _, _ => none
def cmpD (o : CmpOp) (x y : D) : M Bool := match o, x, y with
  | .Lt, .int i, .int j => pure (decide (i < j))
  | .LtE, .int i, .int j => pure (decide (i ≤ j))
  | .Gt, .int i, .int j => pure (decide (j < i))
  | .GtE, .int i, .int j => pure (decide (j ≤ i))
  | .Eq, .dic as, b => ofO (eqDic (.dic as) b)
  | .NotEq, .dic as, b => do
      let c ← ofO (eqDic (.dic as) b)
      pure (!c)
  | .Eq, a, b => ofO (eqD a b)
  | .NotEq, a, b => do
      let c ← ofO (eqD a b)
      pure (!c)
  | .In, a, b => ofO (inD a b)
  | .NotIn, a, b => do
      let c ← ofO (inD a b)
      pure (!c)
  | .Is, a, .non => pure (isNonD a)
  | .IsNot, a, .non => pure (!isNonD a)
  | _, _, _ => no
/-- an item is read off a place's own -/
def itemK : Kd → D → KD
  | .bo l, d => readK (l - 1) d
  | _, d => (.fz, d)
def idxN (i : Int) : Option Nd → M KD
  | some (.nl ds) => ofO ((L2.atI ds i).map fun d => (.fz, d))
  | _ => no
def idxR (n : Nat) (i : Int) : M KD := fun s => idxN i s[n]? s
def idxD (x : KD) (i : D) : M KD := match x.2, i with
  | .lst ds, .int i => ofO ((L2.atI ds i).map fun d => itemK x.1 d)
  | .tup ds, .int i => ofO ((L2.atI ds i).map fun d => (.fz, d))
  | .str z, .int i => if szOk z.length then ofO ((L2.atI z.cps.toList i).map fun c => (.fz, .str ⟨#[c]⟩)) else no
  | .ref n, .int i => idxR n i
  | .dic kvs, i => ofO (((dicGet kvs i).bind id).map fun d => itemK x.1 d)
  | _, _ => no
def cutL {α : Type} (ds : List α) (lo hi : Option Int) : List α := (ds.drop (HT.sIx ds.length 0 lo)).take (HT.sIx ds.length ds.length hi - HT.sIx ds.length 0 lo)
def slcD (x : KD) (lo hi : Option Int) : M KD := match x.2 with
  | .lst ds => if viewB x.1 then pure (.fr 1, .lst (cutL ds lo hi)) else no
  | .tup ds => pure (.fz, .tup (cutL ds lo hi))
  | .str z => if szOk z.length then pure (.fz, .str (L2.cutS z lo hi)) else no
  | _ => no
def intO : D → Option Int
  | .int i => some i
  | _ => none
def intsO : List D → Option (List Int)
  | [] => some []
  | d :: ds => match intO d, intsO ds with
    | some i, some is => some (i :: is)
    | _, _ => none
def rangeI (lo : Int) (n : Nat) : List Int := (List.range n).map fun (k : Nat) => lo + (k : Int)
def sumI (l : List Int) : Int := l.sum
def seqO : D → Option (List D)
  | .lst ds => some ds
  | .tup ds => some ds
  | _ => none
def b1 {α : Type} (f : KD → M α) : List KD → M α
  | [x] => f x
  | _ => no
def b2 {α : Type} (f : KD → KD → M α) : List KD → M α
  | [x, y] => f x y
  | _ => no
def b3 {α : Type} (f : KD → KD → KD → M α) : List KD → M α
  | [x, y, z] => f x y z
  | _ => no
def lenD (x : KD) : M KD := match x.2 with
  | .lst ds => pure (.fz, .int ds.length)
  | .tup ds => pure (.fz, .int ds.length)
  | .str z => if szOk z.length then pure (.fz, .int z.length) else no
  | .dic kvs => pure (.fz, .int kvs.length)
  | .dit kvs => pure (.fz, .int kvs.length)
  | _ => no
def absD (x : KD) : M KD := match x.2 with
  | .int i => pure (.fz, .int (if i < 0 then -i else i))
  | _ => no
def intD (x : KD) : M KD := match x.2 with
  | .int i => pure (.fz, .int i)
  | .bl b => pure (.fz, .int (if b then 1 else 0))
  | _ => no
/-- a key as a value -/
def keyD : Ky → D
  | .inl i => .int i
  | .inr x => .str x
def listD (x : KD) : M KD := match x.2 with
  | .lst ds => if viewB x.1 then pure (.fr 1, .lst ds) else no
  | .tup ds => pure (.fr 1, .lst ds)
  | .dic kvs => pure (.fr 1, .lst (kvs.map fun p => keyD p.1))
  | _ => no
def tupleD (x : KD) : M KD := match x.2 with
  | .lst ds => if viewB x.1 then pure (.fz, .tup ds) else no
  | .tup ds => pure (.fz, .tup ds)
  | _ => no
def sumD (x : KD) : M KD := match x.2 with
  | .lst ds => do
    let is ← ofO (intsO ds)
    pure (.fz, .int is.sum)
  | .tup ds => do
    let is ← ofO (intsO ds)
    pure (.fz, .int is.sum)
  | _ => no
def min2D (x y : KD) : M KD := match x.2, y.2 with
  | .int i, .int j => pure (.fz, .int (if j < i then j else i))
  | _, _ => no
def max2D (x y : KD) : M KD := match x.2, y.2 with
  | .int i, .int j => pure (.fz, .int (if j > i then j else i))
  | _, _ => no
def min3D (x y z : KD) : M KD := match x.2, y.2, z.2 with
  | .int i, .int j, .int k => pure (.fz, .int (if k < (if j < i then j else i) then k else (if j < i then j else i)))
  | _, _, _ => no
def max3D (x y z : KD) : M KD := match x.2, y.2, z.2 with
  | .int i, .int j, .int k => pure (.fz, .int (if k > (if j > i then j else i) then k else (if j > i then j else i)))
  | _, _, _ => no
/-- data that may be put in order -/
def ltD (a b : D) : Bool := match toP a, toP b with
  | some x, some y => PySem.W.dataLt x y
  | _, _ => false
def isNoneP : PyData → Bool
  | .none => true
  | _ => false
def alikeB (ps : List PyData) : Bool := ps.all fun x => !isNoneP x && ps.all fun y => PySem.W.alike x y
def ordOk (ds : List D) : Bool := match toPs ds with
  | some ps => alikeB ps && decide (PyData.depthAll ps ≤ 16)
  | none => false
def minDs (d : D) (ds : List D) : D := ds.foldl (fun a y => if ltD y a then y else a) d
def maxDs (d : D) (ds : List D) : D := ds.foldl (fun a y => if ltD a y then y else a) d
def bestD (mx : Bool) (x : KD) : M KD := match x.2 with
  | .lst (d :: ds) => if viewB x.1 && ordOk (d :: ds) then pure (.fz, if mx then maxDs d ds else minDs d ds) else no
  | .tup (d :: ds) => if ordOk (d :: ds) then pure (.fz, if mx then maxDs d ds else minDs d ds) else no
  | _ => no
/-- tuple(reversed(x)) -/
def tupRevD (x : KD) : M KD := match x.2 with
  | .lst ds => if viewB x.1 then pure (.fz, .tup ds.reverse) else no
  | .tup ds => pure (.fz, .tup ds.reverse)
  | _ => no
/-- range(i, j, c), c > 0 -/
abbrev rngN := RT.rngN
abbrev rangeC := RT.rangeC
def lrgOk (i j c : Int) : Bool := decide ((0 < c ∨ c = -1) ∧ c < 1073741824 ∧ -(2 ^ 61) ≤ i ∧ i < 2 ^ 61 ∧ -(2 ^ 61) ≤ j ∧ j < 2 ^ 61) && szOk (rngN i j c)
def lrgD (x y z : KD) : M KD := match x.2, y.2, z.2 with
  | .int i, .int j, .int c => if lrgOk i j c then pure (.fr 1, .lst ((rangeC i c (rngN i j c)).map .int)) else no
  | _, _, _ => no
def lrg2D (x y : KD) : M KD := match x.2, y.2 with
  | .int i, .int j => if lrgOk i j 1 then pure (.fr 1, .lst ((rangeC i 1 (rngN i j 1)).map .int)) else no
  | _, _ => no
def trgD (x y z : KD) : M KD := match x.2, y.2, z.2 with
  | .int i, .int j, .int c => if lrgOk i j c then pure (.fz, .tup ((rangeC i c (rngN i j c)).map .int)) else no
  | _, _, _ => no
def srg2D (x y : KD) : M KD := match x.2, y.2 with
  | .int i, .int j => if lrgOk i j 1 then pure (.fz, .int (rangeC i 1 (rngN i j 1)).sum) else no
  | _, _ => no
/-- the first place of an equal one -/
def firstJ (p : PyData) : List PyData → Nat → Option Nat
  | [], _ => none
  | q :: qs, k => if PyData.eqv q p then some k else firstJ p qs (k + 1)
def indexL (d : D) (ds : List D) : Option Nat := match toP d, toPs ds with
  | some p, some ps => if SeqAt.shaped p && SeqAt.shaped (.list ps) then firstJ p ps 0 else none
  | _, _ => none
/-- how many are equal -/
def countL (d : D) (ds : List D) : Option Nat := match toP d, toPs ds with
  | some p, some ps => if SeqAt.shaped p && SeqAt.shaped (.list ps) then some (ps.countP fun y => PyData.eqv y p) else none
  | _, _ => none
def countD (x y : KD) : M KD := match x.2 with
  | .lst ds => (ofO (countL y.2 ds)) >>= fun j => pure (.fz, .int (j : Nat))
  | _ => no
def indexD (x y : KD) : M KD := match x.2 with
  | .lst ds => (ofO (indexL y.2 ds)) >>= fun j => pure (.fz, .int (j : Nat))
  | _ => no
def strsO : List D → Option (List Str)
  | [] => some []
  | d :: ds => match d, strsO ds with
    | .str x, some xs => some (x :: xs)
    | _, _ => none
def joinD (x y : KD) : M KD := match x.2, y.2 with
  | .str a, .lst ds => (ofO (strsO ds)) >>= fun ys => if szOk ((ys.map (·.length)).sum + ys.length * a.length) then pure (.fz, .str (PySem.Txt.join a ys)) else no
  | .str a, .tup ds => (ofO (strsO ds)) >>= fun ys => if szOk ((ys.map (·.length)).sum + ys.length * a.length) then pure (.fz, .str (PySem.Txt.join a ys)) else no
  | _, _ => no
/-- in order -/
def isTupN : D → Bool
  | .tup (_ :: _) => true
  | _ => false
def isAtom : D → Bool
  | .int _ => true
  | .str _ => true
  | .bl _ => true
  | .lst _ => true
  | _ => false
def sortOk (ds : List D) : Bool := ordOk ds && (ds.all isTupN || ds.all isAtom)
def sortDs (ds : List D) : List D := ds.mergeSort fun a b => !ltD b a
def sortedD (x : KD) : M KD := match x.2 with
  | .lst ds => if viewB x.1 && sortOk ds then pure (.fr 1, .lst (sortDs ds)) else no
  | .tup ds => if sortOk ds then pure (.fr 1, .lst (sortDs ds)) else no
  | .dic kvs => if sortOk (kvs.map fun p => keyD p.1) then pure (.fr 1, .lst (sortDs (kvs.map fun p => keyD p.1))) else no
  | _ => no
/-! list(dict(ps)), len(dict(ps)), ps a list of pairs whose keys are tuples of ints and texts -/
def pairO : D → Option (List Ky × D)
  | .tup [.tup ds, _] => match keysO ds with
    | some ks => some (ks, .tup ds)
    | none => none
  | _ => none
def pairsO : List D → Option (List (List Ky × D))
  | [] => some []
  | d :: ds => match pairO d, pairsO ds with
    | some p, some ps => some (p :: ps)
    | _, _ => none
/-- each key once, at its first place -/
def firstG {β : Type} (l : List (List Ky × β)) (acc : List (List Ky × β) := []) : List (List Ky × β) := l.foldl (fun acc p => if (acc.any fun q => decide (q.1 = p.1)) then acc else acc ++ [p]) acc
def lstDictD (x : KD) : M KD := match x.2 with
  | .lst ds => if viewB x.1 && (pairsO ds).isSome then pure (.fr 1, .lst ((firstG ((pairsO ds).getD [])).map (·.2))) else no
  | _ => no
def lenDictD (x : KD) : M KD := match x.2 with
  | .lst ds => if viewB x.1 && (pairsO ds).isSome then pure (.fz, .int (firstG ((pairsO ds).getD [])).length) else no
  | _ => no
/-! dict(ps), ps a list of pairs whose keys are ints and texts -/
def pairK : D → Option (Ky × D)
  | .tup [k, d] => (keyO k).map fun k => (k, d)
  | _ => none
def pairsK : List D → Option (List (Ky × D))
  | [] => some []
  | d :: ds => match pairK d, pairsK ds with
    | some p, some ps => some (p :: ps)
    | _, _ => none
/-- a key's value is set -/
def setK {κ : Type} [DecidableEq κ] (kvs : List (κ × D)) (k : κ) (d : D) : List (κ × D) := if kvs.any fun kv => decide (kv.1 = k) then kvs.map fun kv => if kv.1 = k then (kv.1, d) else kv else kvs ++ [(k, d)]
def mergeD (kvs ps : List (Ky × D)) : List (Ky × D) := ps.foldl (fun acc p => setK acc p.1 p.2) kvs
def dictOfD (x : KD) : M KD := match x.2 with
  | .lst ds => if viewB x.1 then (ofO (pairsK ds)) >>= fun ps => pure (.fr 1, .dic (mergeD [] ps)) else no
  | _ => no
/-- dict(x), x a constant tuple of pairs -/
def dictCD (x : D) : M KD := match x with
  | .tup ds => (ofO (pairsK ds)) >>= fun ps => pure (.fr 1, .dic (mergeD [] ps))
  | _ => no
/-- sorted(x, reverse=True), x a list of ints -/
def sortIR (is : List Int) : List Int := is.mergeSort fun a b => decide (b ≤ a)
def sortedRD (x : KD) : M KD := match x.2 with
  | .lst ds => if viewB x.1 then (ofO (intsO ds)) >>= fun is => pure (.fr 1, .lst ((sortIR is).map .int)) else no
  | .tup ds => (ofO (intsO ds)) >>= fun is => pure (.fr 1, .lst ((sortIR is).map .int))
  | _ => no
/-- tuple(range(j)) -/
def trg1D (x : KD) : M KD := match x.2 with
  | .int j => if szOk j.toNat ∧ -(2 ^ 61) ≤ j then pure (.fz, .tup ((rangeI 0 j.toNat).map .int)) else no
  | _ => no
/-- list(d.values()), list(d.items()) -/
def lstValsD (x : KD) : M KD := match x.2 with
  | .dic kvs => if walkB x.1 then pure (.fr 1, .lst (kvs.map (·.2))) else no
  | _ => no
def lstItemsD (x : KD) : M KD := match x.2 with
  | .dic kvs => if walkB x.1 then pure (.fr 1, .lst (kvs.map fun p => .tup [keyD p.1, p.2])) else no
  | _ => no
/-- d.get(k, z) -/
def getD (x y z : KD) : M KD := match x.2 with
  | .dic kvs => ofO (dicGet kvs y.2) >>= fun o => match o with
    | some d => pure (itemK x.1 d)
    | none => pure z
  | _ => no
/-- max(x, default=d), x a list -/
def maxdD (x y : KD) : M KD := match x.2, y.2 with
  | .lst [], .int i => if viewB x.1 then pure (.fz, .int i) else no
  | .lst (d :: ds), .int _ => bestD true (x.1, .lst (d :: ds))
  | _, _ => no
/-- (c,) * n, kept with its object -/
def trepxD (x y : KD) : M KD := match x.2, y.2 with
  | .int i, .int n => if 1 ≤ n ∧ n ≤ 1000 then pure (.fz, .tx (List.replicate n.toNat (.int i))) else no
  | _, _ => no
/-- str(i) -/
def strD (x : KD) : M KD := match x.2 with
  | .int i => if i.natAbs.log2 < 1920 then pure (.fz, .str (toString i)) else no
  | .str z => pure (.fz, .str z)
  | _ => no
/-- a != b, where both may be (x, a dict): alike, or plain data -/
def neTO : D → D → Option Bool
  | .tup [x, .dic as], .tup [y, .dic bs] => if flatD x && (sameF (some x) y && decide (eqDic (.dic as) (.dic bs) = some true)) then some false else none
  | a, b => (eqD a b).map fun c => !c
def neTD (x y : KD) : M KD := ofO ((neTO x.2 y.2).map fun c => (.fz, .bl c))
/-- a locked dict's keys -/
def lkKeys (x : KD) : M (List D) := match x.1, x.2 with
  | .lk, .dic kvs => pure (kvs.map fun p => keyD p.1)
  | _, _ => no
/-! dicts with tuples of ints and texts as keys -/
def inTD (x y : KD) : M KD := match y.2 with
  | .dit kvs => ofO ((ditGet kvs x.2).map fun o => (.fz, .bl o.isSome))
  | _ => no
def ninTD (x y : KD) : M KD := match y.2 with
  | .dit kvs => ofO ((ditGet kvs x.2).map fun o => (.fz, .bl (!o.isSome)))
  | _ => no
def getTD (x y z : KD) : M KD := match x.2 with
  | .dit kvs => ofO (ditGet kvs y.2) >>= fun o => match o with
    | some d => pure (itemK x.1 d)
    | none => pure z
  | _ => no
def idxTD (x y : KD) : M KD := match x.2 with
  | .dit kvs => ofO (((ditGet kvs y.2).bind id).map fun d => itemK x.1 d)
  | _ => no
def pairT : D → Option (List Ky × D)
  | .tup [.tup ds, d] => (keysO ds).map fun k => (k, d)
  | _ => none
def pairsT : List D → Option (List (List Ky × D))
  | [] => some []
  | d :: ds => match pairT d, pairsT ds with
    | some p, some ps => some (p :: ps)
    | _, _ => none
def mergeT (kvs ps : List (List Ky × D)) : List (List Ky × D) := ps.foldl (fun acc p => setK acc p.1 p.2) kvs
def dictOfTD (x : KD) : M KD := match x.2 with
  | .lst ds => if viewB x.1 then (ofO (pairsT ds)) >>= fun ps => pure (.fr 1, .dit (mergeT [] ps)) else no
  | _ => no
def dnewTD : List KD → M KD
  | [] => pure (.fr 1, .dit [])
  | _ => no
/-- a == b, where one may be a tuple, the other a text -/
def eqSO : D → D → Option Bool
  | .tup _, .str _ => some false
  | a, b => eqD a b
def eqSD (x y : KD) : M KD := ofO ((eqSO x.2 y.2).map fun c => (.fz, .bl c))
/-- a < b of data, tuples too -/
def cntSD (x y : KD) : M KD := match x.2, y.2 with
  | .str a, .str b => pure (.fz, .int (Txt.count a b))
  | _, _ => no
def ltTD (x y : KD) : M KD := if ordOk [x.2, y.2] then pure (.fz, .bl (ltD x.2 y.2)) else no
def keyTO : D → Option (List Ky)
  | .tup ds => keysO ds
  | _ => none
/-- {k: v}, k a tuple -/
def dlitTD (x y : KD) : M KD := match keyTO x.2 with
  | some k => if putB y then pure (.fr 1, .dit [(k, y.2)]) else no
  | none => no
/-- "".join(reversed(x)), x a text -/
def revT (a : Str) : Str := ⟨a.cps.reverse⟩
def revSD (x : KD) : M KD := match x.2 with
  | .str a => if szOk a.length then pure (.fz, .str (revT a)) else no
  | _ => no
/-- x.replace(y, z) -/
def rplSD (x y z : KD) : M KD := match x.2, y.2, z.2 with
  | .str a, .str b, .str c => if decide (b ≠ c) && (decide (c.length = 0) && szOk a.length) then pure (.fz, .str (Txt.replace a b c)) else no
  | _, _, _ => no
/-- int(text) -/
def intSD (x : KD) : M KD := match x.2 with
  | .str a => if decide (a.length ≤ 640) then ofO ((PySem.intText? a).map fun n => (.fz, .int n)) else no
  | _ => no
/-- sorted(d), d's keys tuples; sorted(d.items()) -/
def srtTD (x : KD) : M KD := match x.2 with
  | .dit kvs => if walkB x.1 && sortOk (kvs.map fun p => D.tup (p.1.map keyD)) then pure (.fr 1, .lst (sortDs (kvs.map fun p => D.tup (p.1.map keyD)))) else no
  | _ => no
def srtITD (x : KD) : M KD := match x.2 with
  | .dit kvs => if walkB x.1 && sortOk (kvs.map fun p => D.tup [D.tup (p.1.map keyD), p.2]) then pure (.fr 1, .lst (sortDs (kvs.map fun p => D.tup [D.tup (p.1.map keyD), p.2]))) else no
  | _ => no
/-- built-in functions -/
def biD (b : Bi) (xs : List KD) : M KD := match b with
  | .len => b1 lenD xs
  | .abs => b1 absD xs
  | .int => b1 intD xs
  | .list => b1 listD xs
  | .tuple => b1 tupleD xs
  | .sum => b1 sumD xs
  | .min2 => b2 min2D xs
  | .max2 => b2 max2D xs
  | .min3 => b3 min3D xs
  | .max3 => b3 max3D xs
  | .min => b1 (bestD false) xs
  | .max => b1 (bestD true) xs
  | .tupRev => b1 tupRevD xs
  | .lrg => b3 lrgD xs
  | .lstDict => b1 lstDictD xs
  | .lenDict => b1 lenDictD xs
  | .sorted => b1 sortedD xs
  | .dictOf => b1 dictOfD xs
  | .sortedR => b1 sortedRD xs
  | .trg1 => b1 trg1D xs
  | .lstVals => b1 lstValsD xs
  | .lstItems => b1 lstItemsD xs
  | .lrg2 => b2 lrg2D xs
  | .trg => b3 trgD xs
  | .srg2 => b2 srg2D xs
  | .maxd => b2 maxdD xs
  | .trepx => b2 trepxD xs
  | .str => b1 strD xs
  | .neT => b2 neTD xs
  | .inT => b2 inTD xs
  | .ninT => b2 ninTD xs
  | .getT => b3 getTD xs
  | .idxT => b2 idxTD xs
  | .dictOfT => b1 dictOfTD xs
  | .dnewT => dnewTD xs
  | .eqS => b2 eqSD xs
  | .ltT => b2 ltTD xs
  | .dlitT => b2 dlitTD xs
  | .revS => b1 revSD xs
  | .srtT => b1 srtTD xs
  | .srtIT => b1 srtITD xs
  | .intS => b1 intSD xs
  | _ => no
/-- is the method this object's -/
def okM : Mth → D → Bool
  | .index, .lst _ => true
  | .join, .str _ => true
  | .get, .dic _ => true
  | .count, .lst _ => true
  | .cntS, .str _ => true
  | .rplS, .str _ => true
  | _, _ => false
def mcD (m : Mth) (x : KD) (ys : List KD) : M KD := match m with
  | .index => b1 (fun y => indexD x y) ys
  | .join => b1 (fun y => joinD x y) ys
  | .get => b2 (fun y z => getD x y z) ys
  | .count => b1 (fun y => countD x y) ys
  | .cntS => b1 (fun y => cntSD x y) ys
  | .rplS => b2 (fun y z => rplSD x y z) ys
/-- a key's number: the store stays -/
def pureI (m : M KD) : M Int := fun s => match m s with
  | .ok (_, .int i) s' => @ite _ (s' = s) (Classical.propDecidable _) (.ok i s) .no
  | _ => .no
def keysI (f : D → M KD) : List D → M (List Int)
  | [] => pure []
  | d :: ds => do
    let i ← pureI (f d)
    let is ← keysI f ds
    pure (i :: is)
/-- the first whose key is least -/
def minkM (f : D → M KD) (ds : List D) : M KD := if ds.isEmpty then no else do
  let ks ← keysI f ds
  pure (.fz, ds.getD (PySem.argBest (fun i j => decide (ks.getD i 0 < ks.getD j 0)) (ds.length - 1)) .non)
/-- a key as data, no list: the store stays -/
def pureD (m : M KD) : M D := fun s => match m s with
  | .ok (_, d) s' => @ite _ (s' = s ∧ isC d = false) (Classical.propDecidable _) (.ok d s) .no
  | _ => .no
def keysD (f : D → M KD) : List D → M (List D)
  | [] => pure []
  | d :: ds => do
    let k ← pureD (f d)
    let ks ← keysD f ds
    pure (k :: ks)
/-- the first whose key, data, is least -/
def minkdM (f : D → M KD) (ds : List D) : M KD := if ds.isEmpty then no else do
  let ks ← keysD f ds
  if sortOk ks then pure (.fz, ds.getD (PySem.argBest (fun i j => ltD (ks.getD i .non) (ks.getD j .non)) (ds.length - 1)) .non) else no
def sortKs (ds ks : List D) : List D := ((ds.zip ks).mergeSort fun a b => !ltD b.2 a.2).map (·.1)
/-- sorted(x, key=f) of items ds -/
def sortkM (f : D → M KD) (ds : List D) : M KD := do
  let ks ← keysD f ds
  if sortOk ks then pure (.fr 1, .lst (sortKs ds ks)) else no
/-- what sorted(x, key=f) takes: x, or range(x) -/
def sitD (rg : Bool) (x : KD) : M (List D) := match rg with
  | true => match x.2 with
    | .int j => if szOk j.toNat = true ∧ -(2 ^ 61) ≤ j then pure ((rangeI 0 j.toNat).map .int) else no
    | _ => no
  | false => do
    let d ← view x
    ofO (seqO d)
/-- tuple(x), x a list: a tuple whose object is known -/
def tupxD (x : KD) : M KD := match x.2 with
  | .lst ds => if viewB x.1 then pure (.fz, .tx ds) else no
  | _ => no
/-- it is a tuple as any other -/
def unxD (x : KD) : M KD := match x.2 with
  | .tx ds => pure (.fz, .tup ds)
  | _ => no
def isTx : D → Bool
  | .tx _ => true
  | _ => false
def ixtD (x y : KD) : M KD := match x.2 with
  | .tx ds => (ofO (indexL y.2 ds)) >>= fun j => pure (.fz, .int (j : Nat))
  | _ => no
/-- what a for walks -/
def seqD (x : KD) : M (List D) := match x.2 with
  | .dic kvs => if walkB x.1 then pure (kvs.map fun p => keyD p.1) else no
  | d => do
      let _ ← view x
      ofO (seqO d)
def valsD (x : KD) : M (List D) := match x.2 with
  | .dic kvs => if walkB x.1 then pure (kvs.map (·.2)) else no
  | _ => no
def itemsD (x : KD) : M (List D) := match x.2 with
  | .dic kvs => if walkB x.1 then pure (kvs.map fun p => .tup [keyD p.1, p.2]) else no
  | _ => no
def itD (ik : Ik) (xs : List KD) : M (List D) := match ik, xs with
  | .seq, [x] => seqD x
  | .vls, [x] => valsD x
  | .itm, [x] => itemsD x
  | .rng, [(_, .int j)] => if szOk j.toNat ∧ -(2 ^ 62) ≤ j then pure ((rangeI 0 j.toNat).map .int) else no
  | .rng, [(_, .int i), (_, .int j)] => if szOk (j - i).toNat ∧ -(2 ^ 62) ≤ j ∧ j < 2 ^ 62 ∧ -(2 ^ 62) ≤ i ∧ i < 2 ^ 62 then pure ((rangeI i (j - i).toNat).map .int) else no
  | .rev, [x] => do
      let d ← view x
      let ds ← ofO (seqO d)
      pure ds.reverse
  | .enm, [x] => do
      let d ← view x
      let ds ← ofO (seqO d)
      pure ((ds.zipIdx).map fun p => .tup [.int p.2, p.1])
  | .zp, [(k, .lst as), (k', .lst bs)] => do
      let _ ← view (k, .lst as)
      let _ ← view (k', .lst bs)
      pure ((as.zip bs).map fun p => .tup [p.1, p.2])
  | .zp, [(_, .tup as), (_, .tup bs)] => pure ((as.zip bs).map fun p => .tup [p.1, p.2])
  | .chr, [(_, .str z)] => if szOk z.length then pure (z.cps.toList.map fun c => .str ⟨#[c]⟩) else no
  | .enc, [(_, .str z)] => if szOk z.length then pure ((z.cps.toList.zipIdx).map fun p => .tup [.int p.2, .str ⟨#[p.1]⟩]) else no
  | .zps, [(_, .str y), (_, .str z)] => if szOk y.length ∧ szOk z.length ∧ y.cps.all (· < 128) ∧ z.cps.all (· < 128) then pure ((y.cps.toList.zip z.cps.toList).map fun p => .tup [.str ⟨#[p.1]⟩, .str ⟨#[p.2]⟩]) else no
  | .kst, [(k, .dit kvs)] => if walkB k then pure (kvs.map fun p => .tup (p.1.map keyD)) else no
  | .rg3, [(_, .int i), (_, .int j), (_, .int c)] => if lrgOk i j c then pure ((rangeC i c (rngN i j c)).map .int) else no
  | _, _ => no
def boolO : D → Option Bool
  | .bl b => some b
  | _ => none
/-- one more item of a generator: what is held so far, the item's value (none: it did not pass) -/
def gen0 : Gk → D
  | .any => .bl false
  | .all => .bl true
  | .sum => .int 0
/-- nothing more is asked -/
def genEnd : Gk → D → Bool
  | .any, .bl true => true
  | .all, .bl false => true
  | _, _ => false
def genStep : Gk → D → D → Option D
  | .any, _, .bl b => some (.bl b)
  | .all, _, .bl b => some (.bl b)
  | .sum, .int i, .int j => some (.int (i + j))
  | _, _, _ => none
/-- what a new container of such an element is one's own to -/
def lvE : E → Nat
  | .lst [] => 1
  | .lst (_ :: _) => 1
  | .lc .. => 1
  | .bin .Add _ _ => 1
  | .bin .Mult _ _ => 1
  | .slc .. => 1
  | .bi .list _ => 1
  | _ => 0

/-- the class of an instance -/
def clsN : Option Nd → M Nat
  | some (.ni c _) => pure c
  | some (.nk c _) => pure c
  | _ => no
def clsD : D → M Nat
  | .ins c _ => pure c
  | .ref n => fun s => clsN s[n]? s
  | _ => no
def fldV (x : Nat × D) : M KD := if x.1 = 0 ∨ isC x.2 = false then pure (.fz, x.2) else no
/-- .. of an instance that is locked: what it holds as its own is lent -/
def fldVL (x : Nat × D) : M KD := if x.1 = 0 ∨ isC x.2 = false then pure (.fz, x.2) else if x.1 = 1 then pure (.lk, x.2) else no
def fldN (c k : Nat) : Option Nd → M KD
  | some (.ni c' fs) => if c' = c then ofO fs[k]? >>= fldV else no
  | some (.nk c' fs) => if c' = c then ofO fs[k]? >>= fldVL else no
  | _ => no
/-- a field, by its place -/
def fldD (c : Nat) (o : D) (k : Nat) : M KD := match o with
  | .ins c' ds => if c' = c then (ofO ds[k]?) >>= fun d => pure (.fz, d) else no
  | .ref n => fun s => fldN c k s[n]? s
  | _ => no
/-- the fields of an object that is made, all frozen -/
def madeO (n : Nat) : List (Nat × D) → Option (List D)
  | [] => if n = 0 then some [] else none
  | (l, d) :: r => match n with
    | 0 => none
    | n + 1 => if l = 0 ∨ isC d = false then (madeO n r).map (d :: ·) else none
/-- what a refusal may bear -/
def plainX : D → Bool
  | .non => true
  | .int _ => true
  | .str _ => true
  | _ => false
/-- a new instance of a class whose objects don't change: its __init__, then its fields -/
def newI (c n : Nat) (init : List D → M D) (ds : List D) : M D := fun s => match init (.ref s.length :: ds) (s ++ [.ni c []]) with
  | .ok .non s' => if s'.length = s.length + 1 then (match s'[s.length]? with
    | some (.ni c' fs) => if c' = c then (match madeO n fs with
      | some es => .ok (.ins c es) s'.dropLast
      | none => .no) else .no
    | _ => .no) else .no
  | .ex e p s' => if plainX p ∧ s.length ≤ s'.length then .ex e p (s'.take s.length) else .no
  | _ => .no

/-- a new instance whose fields may change: it stays in the store -/
def newM (c n : Nat) (init : List D → M D) (ds : List D) : M D := fun s => match init (.ref s.length :: ds) (s ++ [.ni c []]) with
  | .ok .non s' => .ok (.ref s.length) s'
  | .ex e p s' => if plainX p ∧ s.length ≤ s'.length then .ex e p (s'.take s.length) else .no
  | _ => .no
/-- a call that is told: exceptions by the handler's list -/
def toldM (h : Nat → Option D) (m : M D) : M D := fun s => match m s with
  | .ok a s1 => .ok a s1
  | .ex c p s1 => match h c with
    | some d => .ok d s1
    | none => .no
  | .no => .no

/-- with an instance of the store locked -/
def wlM {α : Type} (n : Nat) (m : M α) : M α := fun s => match s[n]? with
  | some (.nk _ _) => m s
  | some (.ni c fs) => match m (s.set n (.nk c fs)) with
    | .ok a s' => @ite _ (s'[n]? = some (.nk c fs)) (Classical.propDecidable _) (.ok a (s'.set n (.ni c fs))) .no
    | .ex e p s' => @ite _ (s'[n]? = some (.nk c fs)) (Classical.propDecidable _) (.ex e p (s'.set n (.ni c fs))) .no
    | .no => .no
  | _ => .no
/-- a name's value, to be taken up -/
def slotD (ρ : Env) (i : Nat) : M (Nat × D) := match ρ[i]? with
  | some (some x) => pure x
  | _ => no
/-- a dict of one's own, its values frozen -/
def ownD : Nat × D → Option (List (Ky × D))
  | (1, .dic kvs) => some kvs
  | _ => none
/-- the sums of a list of lists -/
def sumsL : List D → Option (List Int)
  | [] => some []
  | .lst es :: ds => match intsO es, sumsL ds with
    | some is, some r => some (is.sum :: r)
    | _, _ => none
  | _ :: _ => none
def sumsO : D → Option (List Int)
  | .lst ds => sumsL ds
  | _ => none
/-- a name whose dict may be lent -/
def ldN : Option Nd → M KD
  | some (.nd kvs) => pure (.lk, .dic kvs)
  | _ => no
def ldM : Nat × D → M KD
  | (0, .ref n) => fun s => ldN s[n]? s
  | (0, .dic kvs) => pure (.fz, .dic kvs)
  | _ => no
/-- with a dict lent: it stands in the store for a while -/
def wvM (kvs : List (Ky × D)) (f : Nat → M KD) : M KD := fun s => match f s.length (s ++ [.nd kvs]) with
  | .ok x s' => @ite _ (s'.length = s.length + 1 ∧ s'[s.length]? = some (.nd kvs) ∧ keepB x.1 = true ∧ isR x.2 = false) (Classical.propDecidable _) (.ok x s'.dropLast) .no
  | .ex c p s' => @ite _ (s'.length = s.length + 1 ∧ s'[s.length]? = some (.nd kvs) ∧ plainX p = true) (Classical.propDecidable _) (.ex c p s'.dropLast) .no
  | .no => .no
/-- the object that a slot holds -/
def slotR (ρ : Env) (i : Nat) : M Nat := match ρ[i]? with
  | some (some (0, .ref n)) => pure n
  | _ => no
/-- over items, one after another -/
def foldM {α β : Type} (f : β → α → M β) : List α → β → M β
  | [], b => pure b
  | a :: as, b => do
    let b1 ← f b a
    foldM f as b1

mutual
def evE (P : Pr) : E → Env → M KD
  | .lit d, _ => pure (.fz, d)
  | .var i, ρ => match ρ[i]? with
    | some (some (l, d)) => pure (readK l d)
    | _ => no
  | .gcon k, _ => do
    let d ← ofO (P.con k)
    pure (.fz, d)
  | .bin o a b, ρ => do
    let x ← evE P a ρ
    let y ← evE P b ρ
    binD o x y
  | .neg a, ρ => do
    let x ← evE P a ρ
    match x.2 with
    | .int i => pure (.fz, .int (-i))
    | _ => no
  | .nt a, ρ => do
    let x ← evE P a ρ
    let b ← ofO (boolO x.2)
    pure (.fz, .bl (!b))
  | .an a b, ρ => do
    let x ← evE P a ρ
    let c ← ofO (boolO x.2)
    if c then evE P b ρ else pure (.fz, .bl false)
  | .orr a b, ρ => do
    let x ← evE P a ρ
    let c ← ofO (boolO x.2)
    if c then pure (.fz, .bl true) else evE P b ρ
  | .ite c a b, ρ => do
    let x ← evE P c ρ
    let t ← ofO (boolO x.2)
    if t then evE P a ρ else evE P b ρ
  | .cmp o a b, ρ => do
    let x ← evE P a ρ
    let y ← evE P b ρ
    let c ← cmpD o x.2 y.2
    pure (.fz, .bl c)
  | .cmp3 a o1 b o2 c, ρ => do
    let x ← evE P a ρ
    let y ← evE P b ρ
    let t ← cmpD o1 x.2 y.2
    if t then do
      let z ← evE P c ρ
      let u ← cmpD o2 y.2 z.2
      pure (.fz, .bl u)
    else pure (.fz, .bl false)
  | .cmp4 a o1 b o2 c o3 d, ρ => do
    let x ← evE P a ρ
    let y ← evE P b ρ
    let t ← cmpD o1 x.2 y.2
    if t then do
      let z ← evE P c ρ
      let u ← cmpD o2 y.2 z.2
      if u then do
        let v ← evE P d ρ
        let r ← cmpD o3 z.2 v.2
        pure (.fz, .bl r)
      else pure (.fz, .bl false)
    else pure (.fz, .bl false)
  | .tup es, ρ => do
    let xs ← evEs P es ρ
    let ds ← keeps xs
    pure (.fz, .tup ds)
  | .lst es, ρ => do
    let xs ← evEs P es ρ
    let ds ← keeps xs
    pure (newK xs, .lst ds)
  | .idx a i, ρ => do
    let x ← evE P a ρ
    let y ← evE P i ρ
    idxD x y.2
  | .slc a lo hi, ρ => do
    let x ← evE P a ρ
    let l ← evO P lo ρ
    let h ← evO P hi ρ
    slcD x l h
  | .call f es, ρ => do
    let xs ← evEs P es ρ
    let ds ← args xs
    let d ← P.fn f ds
    pure (.fz, d)
  | .make c es, ρ => do
    let xs ← evEs P es ρ
    let ds ← args xs
    let d ← P.new c ds
    pure (.fz, d)
  | .meth c f o es, ρ => do
    let x ← evE P o ρ
    let o ← keep x
    let c' ← clsD o
    if c' = c then do
      let xs ← evEs P es ρ
      let ds ← args xs
      let d ← P.fn f (o :: ds)
      pure (.fz, d)
    else no
  | .bi b es, ρ => do
    let xs ← evEs P es ρ
    biD b xs
  | .fld c o k, ρ => do
    let x ← evE P o ρ
    let o ← keep x
    fldD c o k
  | .lc elt tg ik src ifs, ρ => do
    let xs ← evEs P src ρ
    let ds ← itD ik xs
    let ys ← foldM (fun acc d => calm (do
      let ρ1 ← ofO (bindT tg d (wipeE ρ (tgV tg)))
      let t ← evT P ifs ρ1
      if t then do
        let y ← evE P elt ρ1
        let y ← putL (lvE elt) y
        pure (acc ++ [y])
      else pure acc)) ds []
    pure (.fr (lvE elt + 1), .lst ys)
  | .gen g elt tg ik src ifs, ρ => do
    let xs ← evEs P src ρ
    let ds ← itD ik xs
    let d ← foldM (fun acc d => if genEnd g acc then pure acc else calm (do
      let ρ1 ← ofO (bindT tg d (wipeE ρ (tgV tg)))
      let t ← evT P ifs ρ1
      if t then do
        let y ← evE P elt ρ1
        ofO (genStep g acc y.2)
      else pure acc)) ds (gen0 g)
    pure (.fz, d)
  | .mc m o es, ρ => do
    let x ← evE P o ρ
    if okM m x.2 then do
      let ys ← evEs P es ρ
      mcD m x ys
    else no
  | .dlit ks es, ρ => do
    let xs ← evEs P es ρ
    let ds ← keeps xs
    if ks.length = es.length then pure (.fr 1, .dic (mergeD [] (ks.zip ds))) else no
  | .dictC k, _ => do
    let d ← ofO (P.con k)
    dictCD d
  | .mink f a, ρ => do
    let x ← evE P a ρ
    let d ← view x
    let ds ← ofO (seqO d)
    minkM (fun d => evE P f (ρ ++ [some (0, d)])) ds
  | .minkd f a, ρ => do
    let x ← evE P a ρ
    let d ← view x
    let ds ← ofO (seqO d)
    minkdM (fun d => evE P f (ρ ++ [some (0, d)])) ds
  | .minkw f a, ρ => do
    let x ← evE P a ρ
    let ds ← lkKeys x
    minkdM (fun d => evE P f (ρ ++ [some (0, d)])) ds
  | .lc2 elt tg ik src ifs tg1 ik1 src1 ifs1, ρ => do
    let xs ← evEs P src ρ
    let ds ← itD ik xs
    let ys ← foldM (fun acc d => calm (do
      let ρ1 ← ofO (bindT tg d (wipeE ρ (tgV tg ++ tgV tg1)))
      let t ← evT P ifs ρ1
      if t then do
        let xs1 ← evEs P src1 ρ1
        let ds1 ← if (xs1.all fun x => walkB x.1) then itD ik1 xs1 else no
        foldM (fun acc d => do
          let ρ2 ← ofO (bindT tg1 d (wipeE ρ1 (tgV tg1)))
          let t ← evT P ifs1 ρ2
          if t then do
            let y ← evE P elt ρ2
            let y ← putL (lvE elt) y
            if szOk (acc.length + 1) then pure (acc ++ [y]) else no
          else pure acc) ds1 acc
      else pure acc)) ds []
    pure (.fr (lvE elt + 1), .lst ys)
  | .gen2 elt tg ik src ifs tg1 ik1 src1 ifs1, ρ => do
    let xs ← evEs P src ρ
    let ds ← itD ik xs
    let b ← foldM (fun (acc : Bool) d => if acc then pure acc else calm (do
      let ρ1 ← ofO (bindT tg d (wipeE ρ (tgV tg ++ tgV tg1)))
      let t ← evT P ifs ρ1
      if t then do
        let xs1 ← evEs P src1 ρ1
        let ds1 ← if (xs1.all fun x => walkB x.1) then itD ik1 xs1 else no
        if szOk ds1.length then
          foldM (fun (acc : Bool) d => if acc then pure acc else do
            let ρ2 ← ofO (bindT tg1 d (wipeE ρ1 (tgV tg1)))
            let t ← evT P ifs1 ρ2
            if t then do
              let y ← evE P elt ρ2
              ofO (boolO y.2)
            else pure acc) ds1 false
        else no
      else pure acc)) ds false
    pure (.fz, .bl b)
  | .sortk rg f a, ρ => do
    let x ← evE P a ρ
    let ds ← sitD rg x
    sortkM (fun d => evE P f (ρ ++ [some (0, d)])) ds
  | .tupx e, ρ => do
    let x ← evE P e ρ
    tupxD x
  | .unx e, ρ => do
    let x ← evE P e ρ
    unxD x
  | .ixt o e, ρ => do
    let x ← evE P o ρ
    if isTx x.2 then do
      let y ← evE P e ρ
      ixtD x y
    else no
  | .told h e, ρ => do
    let d ← toldM (P.hd h) (do
      let x ← evE P e ρ
      keep x)
    pure (.fz, d)
  | .prim k, _ => do
    let d ← P.prim k
    pure (.fz, d)
  | .wl i e, ρ => do
    let n ← slotR ρ i
    let x ← wlM n (evE P e ρ)
    if keepB x.1 then pure x else no
  | .ld i, ρ => do
    let x ← slotD ρ i
    ldM x
  | .sums i j, ρ => do
    let x ← slotD ρ j
    let is ← ofO (sumsO x.2)
    if decide (i ≠ j ∧ i < ρ.length) && szOk is.length then pure (.an, .lst (is.map .int)) else no
  | .wlv i e, ρ => do
    let x ← slotD ρ i
    let kvs ← ofO (ownD x)
    wvM kvs fun n => evE P e (ρ.set i (some (0, .ref n)))
  | .sem f, ρ => f P ρ
def evEs (P : Pr) : List E → Env → M (List KD)
  | [], _ => pure []
  | e :: es, ρ => do
    let x ← evE P e ρ
    let xs ← evEs P es ρ
    pure (x :: xs)
def evO (P : Pr) : Option E → Env → M (Option Int)
  | none, _ => pure none
  | some e, ρ => do
    let x ← evE P e ρ
    let i ← ofO (intO x.2)
    pure (some i)
def evT (P : Pr) : List E → Env → M Bool
  | [], _ => pure true
  | e :: es, ρ => do
    let x ← evE P e ρ
    let b ← ofO (boolO x.2)
    if b then evT P es ρ else pure false
end
end PV

/-! part PV2 -/
/-! PV2: what the heap says of plain data. -/
namespace PV
open PySem L2 LamX NdefX

/-- what is told of the program: its written part, its classes (address, fields), its tables of code objects -/
structure Gx where
  K : PySem.W.Frag
  cl : Nat → Option (Addr × List Str)
  ex : Nat → Addr
  T : List NTab
  con : Nat → Option D
  kt : Bool
/-- the world: frozen places, the store's places, the lists and dicts that its fields hold as their own -/
structure Wd where
  F : Addr → Prop
  ρ : List Addr
  O : List Addr
  T : Addr → Option (List Addr) := fun _ => none

/-- a tuple, a list that stays as it is -/
def KT (K : PySem.W.Frag) (a : Addr) (xs : List V) : Prop := ∃ (o : Obj) (its : Array Value) (n : Nat), K.lookup a = some o ∧ o.cls = .type "tuple" ∧ o.dict = none ∧ o.data = .seq its n ∧ its.size ≤ sizeLine ∧ Vals xs its.toList
/-- a tuple made in the run; if G.kt, one whose object is known, too -/
def Rt (G : Gx) (H : Hp) (a : Addr) (vs : List V) : Prop := H a = some (.tup vs) ∨ (G.kt = true ∧ ∃ o, H a = some (.frz o (.tup vs)))
def FT (G : Gx) (F : Addr → Prop) (H : Hp) (a : Addr) (vs : List V) : Prop := (F a ∧ Rt G H a vs) ∨ (G.kt = true ∧ KT G.K a vs)
theorem Rt.rd {G : Gx} {H : Hp} {a : Addr} {vs : List V} (h : Rt G H a vs) : Rd H a (.tup vs) := h.elim .inl fun h => .inr h.2
theorem FT.key {G : Gx} {F : Addr → Prop} {H : Hp} {a : Addr} {vs : List V} (k : G.kt = false) (h : FT G F H a vs) : F a ∧ H a = some (.tup vs) := by
  rcases h with ⟨h1, h2 | h2⟩ | h
  · exact ⟨h1, h2⟩
  · rw [k] at h2; exact absurd h2.1 (by simp)
  · rw [k] at h; exact absurd h.1 (by simp)
def FL (F : Addr → Prop) (H : Hp) (a : Addr) (vs : List V) : Prop := F a ∧ H a = some (.lst vs)
theorem FT.sqt {G : Gx} {F : Addr → Prop} {H : Hp} {a : Addr} {vs : List V} (h : FT G F H a vs) : SqT G.K H a vs := h.elim (fun h => .inl h.2.rd) fun ⟨_, o, its, n, h1, h2, _, h4, h5, h6⟩ => .inr ⟨o, its, n, h1, h2, h4, h5, h6⟩

/-- keys and values, side by side -/
abbrev zK {κ : Type} (kvs : List (κ × D)) (vs : List V) : List (κ × V) := (kvs.map (·.1)).zip vs
mutual
inductive FR (G : Gx) (w : Wd) (H : Hp) : D → V → Prop
  | non : FR G w H .non .non
  | bl (b : Bool) : FR G w H (.bl b) (.bl b)
  | int (i : Int) : FR G w H (.int i) (.int i)
  | str (x : Str) : FR G w H (.str x) (.str x)
  | tup {a : Addr} {vs : List V} {ds : List D} : FT G w.F H a vs → FRs G w H ds vs → FR G w H (.tup ds) (.ref a)
  | lst {a : Addr} {vs : List V} {ds : List D} : FL w.F H a vs → FRs G w H ds vs → FR G w H (.lst ds) (.ref a)
  | ins {a C dx : Addr} {c : Nat} {fs : List Str} {vs : List V} {ds : List D} : w.F a → H a = some (.ins C dx (fs.zip vs)) → G.cl c = some (C, fs) → fs.length = vs.length → FRs G w H ds vs → FR G w H (.ins c ds) (.ref a)
  | ref {n : Nat} {a : Addr} : w.ρ[n]? = some a → FR G w H (.ref n) (.ref a)
  | tx {a : Addr} {o : Obj} {vs : List V} {ds : List D} : w.F a → o.dict = none → H a = some (.frz o (.tup vs)) → FRs G w H ds vs → FR G w H (.tx ds) (.ref a)
  | dic {a : Addr} {kvs : List (Ky × D)} {vs : List V} : w.F a → Rd H a (.dK (zK kvs vs)) → FRs G w H (kvs.map (·.2)) vs → FR G w H (.dic kvs) (.ref a)
  | dit {a : Addr} {kvs : List (List Ky × D)} {vs : List V} : w.F a → Rd H a (.dT (zK kvs vs)) → FRs G w H (kvs.map (·.2)) vs → FR G w H (.dit kvs) (.ref a)
inductive FRs (G : Gx) (w : Wd) (H : Hp) : List D → List V → Prop
  | nil : FRs G w H [] []
  | cons {d : D} {ds : List D} {v : V} {vs : List V} : isR d = false → FR G w H d v → FRs G w H ds vs → FRs G w H (d :: ds) (v :: vs)
end

mutual
inductive VR (G : Gx) (w : Wd) (H : Hp) : Nat → List Addr → D → V → Prop
  | zero {d : D} {v : V} : FR G w H d v → VR G w H 0 [] d v
  | nc {l : Nat} {d : D} {v : V} : isC d = false → FR G w H d v → VR G w H l [] d v
  | lst {l : Nat} {a : Addr} {O : List Addr} {vs : List V} {ds : List D} : H a = some (.lst vs) → ¬ w.F a → a ∉ w.ρ → VRs G w H l O ds vs → VR G w H (l + 1) (a :: O) (.lst ds) (.ref a)
  | dic {l : Nat} {a : Addr} {O : List Addr} {kvs : List (Ky × D)} {vs : List V} : H a = some (.dK (zK kvs vs)) → ¬ w.F a → a ∉ w.ρ → VRs G w H l O (kvs.map (·.2)) vs → VR G w H (l + 1) (a :: O) (.dic kvs) (.ref a)
  | dit {l : Nat} {a : Addr} {O : List Addr} {kvs : List (List Ky × D)} {vs : List V} : H a = some (.dT (zK kvs vs)) → ¬ w.F a → a ∉ w.ρ → VRs G w H l O (kvs.map (·.2)) vs → VR G w H (l + 1) (a :: O) (.dit kvs) (.ref a)
inductive VRs (G : Gx) (w : Wd) (H : Hp) : Nat → List Addr → List D → List V → Prop
  | nil {l : Nat} : VRs G w H l [] [] []
  | cons {l : Nat} {O O' : List Addr} {d : D} {ds : List D} {v : V} {vs : List V} : isR d = false → VR G w H l O d v → VRs G w H l O' ds vs → VRs G w H l (O ++ O') (d :: ds) (v :: vs)
end

/-- what is found later where o was: a frozen dict may be locked -/
def Kp (o : HO) (h : Option HO) : Prop := match o with
  | .dK kvs => h = some (.dK kvs) ∨ ∃ ob, h = some (.frz ob (.dK kvs))
  | .dT kvs => h = some (.dT kvs) ∨ ∃ ob, h = some (.frz ob (.dT kvs))
  | o => h = some o
theorem Kp.eq {o : HO} {h : Option HO} (e : h = some o) : Kp o h := by
  cases o with
  | dK kvs => exact .inl e
  | dT kvs => exact .inl e
  | _ => exact e
theorem Kp.trans {o : HO} {h h' : Option HO} (a : Kp o h) (b : ∀ u, h = some u → Kp u h') : Kp o h' := by
  cases o with
  | dK kvs =>
    rcases a with a | ⟨ob, a⟩
    · exact b _ a
    · exact .inr ⟨ob, b _ a⟩
  | dT kvs =>
    rcases a with a | ⟨ob, a⟩
    · exact b _ a
    · exact .inr ⟨ob, b _ a⟩
  | _ => exact b _ a
theorem Kp.some {o : HO} {h : Option HO} (a : Kp o h) : ∃ u, h = .some u ∧ ((∀ ps, o ≠ .tbl ps) → ∀ ps, u ≠ .tbl ps) := by
  cases o with
  | dK kvs =>
    rcases a with a | ⟨ob, a⟩
    · exact ⟨_, a, fun n => n⟩
    · exact ⟨_, a, fun n ps e => by cases e⟩
  | dT kvs =>
    rcases a with a | ⟨ob, a⟩
    · exact ⟨_, a, fun n => n⟩
    · exact ⟨_, a, fun n ps e => by cases e⟩
  | _ => exact ⟨_, a, fun n => n⟩
theorem Kp.rd {H H' : Hp} {a : Addr} {u : HO} (k : ∀ o, H a = .some o → Kp o (H' a)) (h : Rd H a u) : Rd H' a u := by
  rcases h with h | ⟨o, h⟩
  · have q := k _ h
    cases u with
    | dK kvs => exact q
    | dT kvs => exact q
    | _ => exact .inl q
  · exact .inr ⟨o, k _ h⟩
/-- at a stands nothing, or a tuple, or a table -/
def NT (H : Hp) (a : Addr) : Prop := ∀ o, H a = some o → (∃ vs, o = .tup vs) ∨ ∃ ps, o = .tbl ps
theorem NT.no {H : Hp} {a : Addr} {o : HO} (n : NT H a) (h : H a = some o) (h1 : ∀ vs, o ≠ .tup vs) (h2 : ∀ ps, o ≠ .tbl ps) : False := (n o h).elim (fun ⟨vs, e⟩ => h1 vs e) fun ⟨ps, e⟩ => h2 ps e
theorem NT.none {H : Hp} {a : Addr} (h : H a = Option.none) : NT H a := fun o e => by rw [h] at e; cases e
theorem NT.tup {H : Hp} {a : Addr} {vs : List V} (h : H a = some (.tup vs)) : NT H a := fun o e => by rw [h] at e; cases e; exact .inl ⟨_, rfl⟩
theorem NT.upd {H : Hp} {p a : Addr} {o : HO} (h : H p = Option.none) (n : NT (L2.upd H p o) a) : NT H a := by
  by_cases c : a = p
  · subst c; exact NT.none h
  · unfold NT at n ⊢
    rw [upd_ne c] at n
    exact n
theorem NT.updP {H : Hp} {p a : Addr} {o : HO} (h1 : ∀ vs, o ≠ .tup vs) (h2 : ∀ ps, o ≠ .tbl ps) (n : NT (L2.upd H p o) a) : NT H a := by
  by_cases c : a = p
  · subst c; exact (n.no upd_same h1 h2).elim
  · unfold NT at n ⊢
    rw [upd_ne c] at n
    exact n
/-- from one state to a later one, expressions run between -/
structure Po (w : Wd) (H : Hp) (w' : Wd) (H' : Hp) : Prop where
  fm : ∀ a, w.F a → w'.F a
  fn : ∀ a, w'.F a → w.F a ∨ NT H a
  sp : ∃ more, w'.ρ = w.ρ ++ more ∧ ∀ a ∈ more, H a = none
  on : ∀ a, a ∈ w'.O → a ∈ w.O ∨ H a = none
  kn : ∀ a o, H a = some o → ¬ w.F a → a ∉ w.ρ → a ∉ w.O → (∀ ps, o ≠ .tbl ps) → H' a = some o
  kf : ∀ a o, H a = some o → w.F a → a ∉ w.ρ → a ∉ w.O → (∀ ps, o ≠ .tbl ps) → Kp o (H' a)
  th : ∀ a, H' a = none → H a = none
  kt : ∀ a L, w.T a = some L → w'.T a = some L ∧ (∀ o, H a = some o → (∀ ps, o ≠ .tbl ps) → H' a = some o) ∧ ∀ b ∈ L, ∀ o, H b = some o → (∀ ps, o ≠ .tbl ps) → Kp o (H' b)
  nu : ∀ a, NT H' a → NT H a
/-- the world is well -/
structure Wf (G : Gx) (w : Wd) (H : Hp) : Prop where
  fa : ∀ a, w.F a → ∃ o, H a = some o ∧ ∀ ps, o ≠ .tbl ps
  fr : ∀ a, w.F a → a ∉ w.ρ ∧ a ∉ w.O
  nd : w.ρ.Nodup
  ra : ∀ a ∈ w.ρ, (∃ o, H a = some o ∧ ∀ ps, o ≠ .tbl ps) ∧ a ∉ w.O
  oa : ∀ a ∈ w.O, ∃ o, H a = some o ∧ ∀ ps, o ≠ .tbl ps
  tb : TabsN G.T H

theorem Po.refl (w : Wd) (H : Hp) : Po w H w H := ⟨fun _ h => h, fun _ h => .inl h, ⟨[], by simp, by simp⟩, fun _ h => .inl h, fun _ _ h _ _ _ _ => h, fun _ _ h _ _ _ _ => Kp.eq h, fun _ h => h, fun _ _ h => ⟨h, fun _ e _ => e, fun _ _ _ e _ => Kp.eq e⟩, fun _ h => h⟩
theorem Po.keep {w w' : Wd} {H H' : Hp} (p : Po w H w' H') : ∀ a o, H a = some o → a ∉ w.ρ → a ∉ w.O → (∀ ps, o ≠ .tbl ps) → Kp o (H' a) := fun a o h n1 n2 nt => by
  by_cases c : w.F a
  · exact p.kf a o h c n1 n2 nt
  · exact Kp.eq (p.kn a o h c n1 n2 nt)
theorem Po.trans {w w1 w2 : Wd} {H H1 H2 : Hp} (a : Po w H w1 H1) (b : Po w1 H1 w2 H2) : Po w H w2 H2 := by
  have nr : ∀ {x : Addr} {o : HO}, H x = some o → x ∉ w.ρ → x ∉ w1.ρ := fun {x o} h hn z => by
    obtain ⟨m1, e1, n1⟩ := a.sp
    rw [e1] at z
    rcases List.mem_append.mp z with z | z
    · exact hn z
    · rw [n1 x z] at h; cases h
  have no : ∀ {x : Addr} {o : HO}, H x = some o → x ∉ w.O → x ∉ w1.O := fun {x o} h ho z => by
    rcases a.on x z with z | z
    · exact ho z
    · rw [z] at h; cases h
  refine ⟨fun x h => b.fm x (a.fm x h), fun x h => ?_, ?_, fun x h => ?_, fun x o h hf hn ho ht => ?_, fun x o h hf hn ho ht => ?_, fun x h => a.th x (b.th x h), fun x L h => ?_, fun x h => a.nu x (b.nu x h)⟩
  · rcases b.fn x h with h1 | h1
    · exact a.fn x h1
    · exact .inr (a.nu x h1)
  · obtain ⟨m1, e1, n1⟩ := a.sp
    obtain ⟨m2, e2, n2⟩ := b.sp
    refine ⟨m1 ++ m2, by rw [e2, e1, List.append_assoc], fun x hx => ?_⟩
    rcases List.mem_append.mp hx with h | h
    · exact n1 x h
    · exact a.th x (n2 x h)
  · rcases b.on x h with h1 | h1
    · exact a.on x h1
    · exact .inr (a.th x h1)
  · by_cases c : w1.F x
    · rcases (a.fn x c).resolve_left hf o h with ⟨vs, rfl⟩ | ⟨ps, rfl⟩
      · exact b.kf x _ (a.kn x _ h hf hn ho ht) c (nr h hn) (no h ho) ht
      · exact absurd rfl (ht ps)
    · exact b.kn x o (a.kn x o h hf hn ho ht) c (nr h hn) (no h ho) ht
  · have q := a.kf x o h hf hn ho ht
    obtain ⟨u, eu, tu⟩ := q.some
    exact q.trans fun u' e => b.kf x u' e (a.fm x hf) (nr h hn) (no h ho) (by rw [eu] at e; cases e; exact tu ht)
  · obtain ⟨t1, k1, l1⟩ := a.kt x L h
    obtain ⟨t2, k2, l2⟩ := b.kt x L t1
    exact ⟨t2, fun o e n => k2 o (k1 o e n) n, fun c hc o e n => by
      have q := l1 c hc o e n
      obtain ⟨u, eu, tu⟩ := q.some
      exact q.trans fun u' e' => l2 c hc u' e' (by rw [eu] at e'; cases e'; exact tu n)⟩

section
variable {G : Gx} {w w' : Wd} {H H' : Hp}
theorem Po.ρ_get (p : Po w H w' H') {n : Nat} {a : Addr} (h : w.ρ[n]? = some a) : w'.ρ[n]? = some a := by
  obtain ⟨m, e, _⟩ := p.sp
  rw [e, List.getElem?_append_left (List.getElem?_eq_some_iff.mp h).1]; exact h
theorem Po.out (p : Po w H w' H') {a : Addr} (h : H a ≠ none) (hn : a ∉ w.ρ) : a ∉ w'.ρ := fun z => by
  obtain ⟨m, e, n⟩ := p.sp
  rw [e] at z
  rcases List.mem_append.mp z with z | z
  · exact hn z
  · exact h (n a z)
theorem Po.outO (p : Po w H w' H') {a : Addr} (h : H a ≠ none) (hn : a ∉ w.O) : a ∉ w'.O := fun z => (p.on a z).elim hn h
theorem Rd.po (wf : Wf G w H) (p : Po w H w' H') {a : Addr} {u : HO} (hf : w.F a) (h : Rd H a u) : Rd H' a u := by
  refine Kp.rd (fun o e => ?_) h
  obtain ⟨o', e1, n⟩ := wf.fa a hf
  rw [e1] at e
  cases e
  exact p.kf a _ e1 hf (wf.fr a hf).1 (wf.fr a hf).2 n
theorem FT.po (wf : Wf G w H) (p : Po w H w' H') {a : Addr} {vs : List V} (h : FT G w.F H a vs) : FT G w'.F H' a vs :=
  h.elim (fun h => .inl ⟨p.fm a h.1, h.2.elim (fun e => .inl (p.kf a _ e h.1 (wf.fr a h.1).1 (wf.fr a h.1).2 fun ps z => by cases z)) fun ⟨k, o, e⟩ => .inr ⟨k, o, p.kf a _ e h.1 (wf.fr a h.1).1 (wf.fr a h.1).2 fun ps z => by cases z⟩⟩) .inr
theorem FL.po (wf : Wf G w H) (p : Po w H w' H') {a : Addr} {vs : List V} (h : FL w.F H a vs) : FL w'.F H' a vs :=
  ⟨p.fm a h.1, p.keep a _ h.2 (wf.fr a h.1).1 (wf.fr a h.1).2 fun _ e => by cases e⟩
/-- dicts as they are, whether locked or not -/
def unfO : HO → HO
  | .frz _ (.dK k) => .dK k
  | .frz _ (.dT k) => .dT k
  | o => o
def unf (H : Hp) : Hp := fun a => (H a).map unfO
theorem unf_some {a : Addr} {o : HO} (h : H a = some o) : unf H a = some (unfO o) := by unfold unf; rw [h]; rfl
theorem unf_of {a : Addr} {o : HO} (h : unf H a = some o) : ∃ u, H a = some u ∧ unfO u = o := by
  unfold unf at h
  cases e : H a with
  | none => rw [e] at h; cases h
  | some u => rw [e] at h; exact ⟨u, rfl, Option.some.inj h⟩
theorem unf_none {a : Addr} : unf H a = none ↔ H a = none := by
  unfold unf
  cases H a <;> simp
theorem unfO_eq {u o : HO} (h : unfO u = o) (n1 : ∀ k, o ≠ .dK k) (n2 : ∀ k, o ≠ .dT k) : u = o := by
  cases u with
  | frz ob v =>
    cases v with
    | dK k => exact absurd h.symm (n1 k)
    | dT k => exact absurd h.symm (n2 k)
    | _ => exact h
  | _ => exact h
theorem unf_back {a : Addr} {o : HO} (h : unf H a = some o) (n1 : ∀ k, o ≠ .dK k) (n2 : ∀ k, o ≠ .dT k) : H a = some o := by
  obtain ⟨u, e, eo⟩ := unf_of h
  rw [e, unfO_eq eo n1 n2]
theorem unf_dK {a : Addr} {k : List (Key × V)} : unf H a = some (.dK k) ↔ Rd H a (.dK k) := by
  constructor
  · intro h
    obtain ⟨u, e, eo⟩ := unf_of h
    cases u with
    | dK k' => exact .inl (by rw [e]; exact congrArg some eo)
    | frz ob v =>
      cases v with
      | dK k' => exact .inr ⟨ob, by
          have : HO.dK k' = .dK k := eo
          rw [e]; cases this; rfl⟩
      | _ => cases eo
    | _ => cases eo
  · rintro (h | ⟨o, h⟩)
    · exact unf_some h
    · exact unf_some h
theorem unf_dT {a : Addr} {k : List (List Key × V)} : unf H a = some (.dT k) ↔ Rd H a (.dT k) := by
  constructor
  · intro h
    obtain ⟨u, e, eo⟩ := unf_of h
    cases u with
    | dT k' => exact .inl (by rw [e]; exact congrArg some eo)
    | frz ob v =>
      cases v with
      | dT k' => exact .inr ⟨ob, by
          have : HO.dT k' = .dT k := eo
          rw [e]; cases this; rfl⟩
      | _ => cases eo
    | _ => cases eo
  · rintro (h | ⟨o, h⟩)
    · exact unf_some h
    · exact unf_some h
theorem rd_unf {a : Addr} {u : HO} (hu : unfO u = u) (h : Rd H a u) : unf H a = some u ∨ ∃ o, unf H a = some (.frz o u) := by
  rcases h with h | ⟨o, h⟩
  · exact .inl (by rw [unf_some h, hu])
  · cases u with
    | dK k => exact .inl (unf_some h)
    | dT k => exact .inl (unf_some h)
    | _ => exact .inr ⟨o, unf_some h⟩
theorem rd_unf' {a : Addr} {u : HO} (hu : unfO u = u) (h : Rd (PV.unf H) a u) : Rd H a u := by
  rcases h with h | ⟨o, h⟩
  · cases u with
    | dK k => exact unf_dK.mp h
    | dT k => exact unf_dT.mp h
    | _ => exact .inl (unf_back h (fun k e => by cases e) fun k e => by cases e)
  · obtain ⟨v, e, eo⟩ := unf_of h
    cases v with
    | frz ob z =>
      cases z with
      | dK k => cases eo
      | dT k => cases eo
      | _ =>
        have := eo
        unfold unfO at this
        cases this
        exact .inr ⟨o, e⟩
    | _ => cases eo
theorem Rt.unf {G : Gx} {H : Hp} {a : Addr} {xs : List V} (h : Rt G H a xs) : Rt G (PV.unf H) a xs := h.elim (fun h => .inl (unf_some h)) fun ⟨k, o, h⟩ => .inr ⟨k, o, unf_some h⟩
mutual
theorem FR.unf : ∀ {d : D} {v : V}, FR G w H d v → FR G w (unf H) d v
  | _, _, .non => .non
  | _, _, .bl b => .bl b
  | _, _, .int i => .int i
  | _, _, .str x => .str x
  | _, _, .tup h hs => .tup (h.elim (fun h => .inl ⟨h.1, h.2.unf⟩) .inr) (FRs.unf hs)
  | _, _, .lst h hs => .lst ⟨h.1, unf_some h.2⟩ (FRs.unf hs)
  | _, _, .ins hf h hc hl hs => .ins hf (unf_some h) hc hl (FRs.unf hs)
  | _, _, .ref h => .ref h
  | _, _, .tx hf hd h hs => .tx hf hd (unf_some h) (FRs.unf hs)
  | _, _, .dic hf h hs => .dic hf (rd_unf rfl h) (FRs.unf hs)
  | _, _, .dit hf h hs => .dit hf (rd_unf rfl h) (FRs.unf hs)
theorem FRs.unf : ∀ {ds : List D} {vs : List V}, FRs G w H ds vs → FRs G w (unf H) ds vs
  | _, _, .nil => .nil
  | _, _, .cons n h hs => .cons n (FR.unf h) (FRs.unf hs)
end
theorem frz_back {a : Addr} {o : Obj} {xs : List V} (h : PV.unf H a = some (.frz o (.tup xs))) : H a = some (.frz o (.tup xs)) := unf_back h (fun k e => by cases e) fun k e => by cases e
theorem Rt.unf' {G : Gx} {H : Hp} {a : Addr} {xs : List V} (h : Rt G (PV.unf H) a xs) : Rt G H a xs := h.elim (fun h => .inl (unf_back h (fun k e => by cases e) fun k e => by cases e)) fun ⟨k, o, h⟩ => .inr ⟨k, o, frz_back h⟩
mutual
theorem FR.unf' : ∀ {d : D} {v : V}, FR G w (unf H) d v → FR G w H d v
  | _, _, .non => .non
  | _, _, .bl b => .bl b
  | _, _, .int i => .int i
  | _, _, .str x => .str x
  | _, _, .tup h hs => .tup (h.elim (fun h => .inl ⟨h.1, h.2.unf'⟩) .inr) (FRs.unf' hs)
  | _, _, .lst h hs => .lst ⟨h.1, unf_back h.2 (fun k e => by cases e) fun k e => by cases e⟩ (FRs.unf' hs)
  | _, _, .ins hf h hc hl hs => .ins hf (unf_back h (fun k e => by cases e) fun k e => by cases e) hc hl (FRs.unf' hs)
  | _, _, .ref h => .ref h
  | _, _, .tx hf hd h hs => .tx hf hd (frz_back h) (FRs.unf' hs)
  | _, _, .dic hf h hs => .dic hf (rd_unf' rfl h) (FRs.unf' hs)
  | _, _, .dit hf h hs => .dit hf (rd_unf' rfl h) (FRs.unf' hs)
theorem FRs.unf' : ∀ {ds : List D} {vs : List V}, FRs G w (unf H) ds vs → FRs G w H ds vs
  | _, _, .nil => .nil
  | _, _, .cons n h hs => .cons n (FR.unf' h) (FRs.unf' hs)
end
mutual
theorem VR.unf : ∀ {l : Nat} {O : List Addr} {d : D} {v : V}, VR G w H l O d v → VR G w (PV.unf H) l O d v
  | _, _, _, _, .zero h => .zero h.unf
  | _, _, _, _, .nc hc h => .nc hc h.unf
  | _, _, _, _, .lst h hf hn hs => .lst (unf_some h) hf hn (VRs.unf hs)
  | _, _, _, _, .dic h hf hn hs => .dic (unf_some h) hf hn (VRs.unf hs)
  | _, _, _, _, .dit h hf hn hs => .dit (unf_some h) hf hn (VRs.unf hs)
theorem VRs.unf : ∀ {l : Nat} {O : List Addr} {ds : List D} {vs : List V}, VRs G w H l O ds vs → VRs G w (PV.unf H) l O ds vs
  | _, _, _, _, .nil => .nil
  | _, _, _, _, .cons n h hs => .cons n (VR.unf h) (VRs.unf hs)
end
theorem kp_unf {o : HO} {h : Option HO} (k : Kp o h) : Kp (unfO o) (h.map unfO) := by
  cases o with
  | dK kvs =>
    rcases k with k | ⟨ob, k⟩
    · rw [k]; exact .inl rfl
    · rw [k]; exact .inl rfl
  | dT kvs =>
    rcases k with k | ⟨ob, k⟩
    · rw [k]; exact .inl rfl
    · rw [k]; exact .inl rfl
  | frz ob v =>
    have k : h = some (.frz ob v) := k
    rw [k]
    cases v with
    | dK kvs => exact .inl rfl
    | dT kvs => exact .inl rfl
    | _ => exact rfl
  | _ =>
    have k : h = some _ := k
    rw [k]; exact rfl
/-- it is unf'd alike -/
theorem kp_same {o : HO} {h : Option HO} (k : Kp o h) : h.map unfO = some (unfO o) := by
  cases o with
  | dK kvs =>
    rcases k with k | ⟨ob, k⟩
    · rw [k]; rfl
    · rw [k]; rfl
  | dT kvs =>
    rcases k with k | ⟨ob, k⟩
    · rw [k]; rfl
    · rw [k]; rfl
  | _ =>
    have k : h = some _ := k
    rw [k]; rfl
theorem unfO_tbl {o : HO} (h : ∀ ps, unfO o ≠ .tbl ps) : ∀ ps, o ≠ .tbl ps := fun ps e => by
  subst e
  exact h ps rfl
theorem tbl_unfO {o : HO} (h : ∀ ps, o ≠ .tbl ps) : ∀ ps, unfO o ≠ .tbl ps := fun ps e => by
  have := unfO_eq e (fun k z => by cases z) fun k z => by cases z
  exact h ps this
theorem NT.unf {H : Hp} {a : Addr} (n : NT H a) : NT (PV.unf H) a := fun o e => by
  obtain ⟨u, e1, e2⟩ := unf_of e
  rcases n u e1 with ⟨vs, rfl⟩ | ⟨ps, rfl⟩
  · exact .inl ⟨vs, e2.symm⟩
  · exact .inr ⟨ps, e2.symm⟩
theorem NT.unf' {H : Hp} {a : Addr} (n : NT (PV.unf H) a) : NT H a := fun o e => by
  have q := n _ (unf_some e)
  cases o with
  | frz ob u => cases u <;> (rcases q with ⟨vs, q⟩ | ⟨ps, q⟩ <;> cases q)
  | _ => exact q
theorem Po.unf (p : Po w H w' H') : Po w (PV.unf H) w' (PV.unf H') := by
  refine ⟨p.fm, fun a h => (p.fn a h).imp id fun e => e.unf, ?_, fun a h => (p.on a h).imp id fun e => unf_none.mpr e, fun a o h hf hn ho ht => ?_, fun a o h hf hn ho ht => ?_, fun a h => unf_none.mpr (p.th a (unf_none.mp h)), fun a L h => ?_, fun a h => (p.nu a h.unf').unf⟩
  · obtain ⟨m, e, n⟩ := p.sp
    exact ⟨m, e, fun a z => unf_none.mpr (n a z)⟩
  · obtain ⟨u, e, rfl⟩ := unf_of h
    exact unf_some (p.kn a u e hf hn ho (unfO_tbl ht))
  · obtain ⟨u, e, rfl⟩ := unf_of h
    exact kp_unf (p.kf a u e hf hn ho (unfO_tbl ht))
  · obtain ⟨t, k, l⟩ := p.kt a L h
    refine ⟨t, fun o h n => ?_, fun b hb o h n => ?_⟩
    · obtain ⟨u, e, rfl⟩ := unf_of h
      exact unf_some (k u e (unfO_tbl n))
    · obtain ⟨u, e, rfl⟩ := unf_of h
      exact kp_unf (l b hb u e (unfO_tbl n))
theorem Wf.unf (wf : Wf G w H) (ht : TabsN G.T (PV.unf H)) : Wf G w (PV.unf H) := by
  have key : ∀ {a}, (∃ o, H a = some o ∧ ∀ ps, o ≠ .tbl ps) → ∃ o, PV.unf H a = some o ∧ ∀ ps, o ≠ .tbl ps := fun ⟨o, e, n⟩ => ⟨_, unf_some e, tbl_unfO n⟩
  exact ⟨fun a z => key (wf.fa a z), wf.fr, wf.nd, fun a z => ⟨key (wf.ra a z).1, (wf.ra a z).2⟩, fun a z => key (wf.oa a z), ht⟩
mutual
theorem FR.po (wf : Wf G w H) (p : Po w H w' H') : ∀ {d : D} {v : V}, FR G w H d v → FR G w' H' d v
  | _, _, .non => .non
  | _, _, .bl b => .bl b
  | _, _, .int i => .int i
  | _, _, .str x => .str x
  | _, _, .tup h hs => .tup (h.po wf p) (FRs.po wf p hs)
  | _, _, .lst h hs => .lst (h.po wf p) (FRs.po wf p hs)
  | _, _, .ins hf h hc hl hs => .ins (p.fm _ hf) (p.keep _ _ h (wf.fr _ hf).1 (wf.fr _ hf).2 fun ps e => by cases e) hc hl (FRs.po wf p hs)
  | _, _, .ref h => .ref (p.ρ_get h)
  | _, _, .dic hf h hs => .dic (p.fm _ hf) (Rd.po wf p hf h) (FRs.po wf p hs)
  | _, _, .dit hf h hs => .dit (p.fm _ hf) (Rd.po wf p hf h) (FRs.po wf p hs)
  | _, _, .tx hf hd h hs => .tx (p.fm _ hf) hd (p.keep _ _ h (wf.fr _ hf).1 (wf.fr _ hf).2 fun ps e => by cases e) (FRs.po wf p hs)
theorem FRs.po (wf : Wf G w H) (p : Po w H w' H') : ∀ {ds : List D} {vs : List V}, FRs G w H ds vs → FRs G w' H' ds vs
  | _, _, .nil => .nil
  | _, _, .cons n h hs => .cons n (FR.po wf p h) (FRs.po wf p hs)
end
mutual
theorem VR.po (wf : Wf G w H) (p : Po w H w' H') : ∀ {l : Nat} {O : List Addr} {d : D} {v : V}, VR G w H l O d v → (∀ a ∈ O, a ∉ w.O) → VR G w' H' l O d v
  | _, _, _, _, .zero h, _ => .zero (h.po wf p)
  | _, _, _, _, .nc hc h, _ => .nc hc (h.po wf p)
  | _, _, _, _, .lst h hf hn hs, hO => .lst (p.keep _ _ h hn (hO _ (by simp)) fun ps e => by cases e) (fun z => (p.fn _ z).elim hf fun e => e.no h (fun _ z => by cases z) fun _ z => by cases z) (p.out (by rw [h]; simp) hn) (VRs.po wf p hs fun a ha => hO a (by simp [ha]))
  | _, _, _, _, .dic h hf hn hs, hO => .dic (p.kn _ _ h hf hn (hO _ (by simp)) fun ps e => by cases e) (fun z => (p.fn _ z).elim hf fun e => e.no h (fun _ z => by cases z) fun _ z => by cases z) (p.out (by rw [h]; simp) hn) (VRs.po wf p hs fun a ha => hO a (by simp [ha]))
  | _, _, _, _, .dit h hf hn hs, hO => .dit (p.kn _ _ h hf hn (hO _ (by simp)) fun ps e => by cases e) (fun z => (p.fn _ z).elim hf fun e => e.no h (fun _ z => by cases z) fun _ z => by cases z) (p.out (by rw [h]; simp) hn) (VRs.po wf p hs fun a ha => hO a (by simp [ha]))
theorem VRs.po (wf : Wf G w H) (p : Po w H w' H') : ∀ {l : Nat} {O : List Addr} {ds : List D} {vs : List V}, VRs G w H l O ds vs → (∀ a ∈ O, a ∉ w.O) → VRs G w' H' l O ds vs
  | _, _, _, _, .nil, _ => .nil
  | _, _, _, _, .cons n h hs, hO => .cons n (VR.po wf p h fun a ha => hO a (by simp [ha])) (VRs.po wf p hs fun a ha => hO a (by simp [ha]))
end
theorem FRs.length : ∀ {ds : List D} {vs : List V}, FRs G w H ds vs → ds.length = vs.length
  | _, _, .nil => rfl
  | _, _, .cons _ _ hs => by simp [FRs.length hs]
theorem VRs.length : ∀ {l : Nat} {O : List Addr} {ds : List D} {vs : List V}, VRs G w H l O ds vs → ds.length = vs.length
  | _, _, _, _, .nil => rfl
  | _, _, _, _, .cons _ _ hs => by simp [VRs.length hs]
mutual
theorem VR.there : ∀ {l : Nat} {O : List Addr} {d : D} {v : V}, VR G w H l O d v → ∀ a ∈ O, H a ≠ none ∧ ¬ w.F a ∧ a ∉ w.ρ
  | _, _, _, _, .zero _ => by simp
  | _, _, _, _, .nc _ _ => by simp
  | _, _, _, _, .lst h hf hn hs => fun b hb => by
    rcases List.mem_cons.mp hb with rfl | hb
    · exact ⟨by rw [h]; simp, hf, hn⟩
    · exact VRs.there hs b hb
  | _, _, _, _, .dic h hf hn hs => fun b hb => by
    rcases List.mem_cons.mp hb with rfl | hb
    · exact ⟨by rw [h]; simp, hf, hn⟩
    · exact VRs.there hs b hb
  | _, _, _, _, .dit h hf hn hs => fun b hb => by
    rcases List.mem_cons.mp hb with rfl | hb
    · exact ⟨by rw [h]; simp, hf, hn⟩
    · exact VRs.there hs b hb
theorem VRs.there : ∀ {l : Nat} {O : List Addr} {ds : List D} {vs : List V}, VRs G w H l O ds vs → ∀ a ∈ O, H a ≠ none ∧ ¬ w.F a ∧ a ∉ w.ρ
  | _, _, _, _, .nil => by simp
  | _, _, _, _, .cons _ h hs => fun b hb => (List.mem_append.mp hb).elim (VR.there h b) (VRs.there hs b)
end
/-- no dict that is not locked -/
def Pl (H : Hp) (b : Addr) : Prop := ∃ o, H b = some o ∧ (∀ k, o ≠ .dK k) ∧ (∀ k, o ≠ .dT k) ∧ ∀ ps, o ≠ .tbl ps
theorem Kp.pl {o : HO} {h : Option HO} (k : Kp o h) (n1 : ∀ k, o ≠ .dK k) (n2 : ∀ k, o ≠ .dT k) : h = Option.some o := by
  cases o with
  | dK kvs => exact absurd rfl (n1 _)
  | dT kvs => exact absurd rfl (n2 _)
  | _ => exact k
/-- lent by a locked instance -/
def TB (w : Wd) (b : Addr) : Prop := ∃ a L, w.T a = some L ∧ (b ∈ L ∨ b = a)
theorem TB.po {b : Addr} (t : TB w b) (p : Po w H w' H') : TB w' b ∧ ∀ o, H b = some o → (∀ ps, o ≠ .tbl ps) → Kp o (H' b) := by
  obtain ⟨a, L, h, hb⟩ := t
  obtain ⟨t, k, l⟩ := p.kt a L h
  refine ⟨⟨a, L, t, hb⟩, fun o e n => hb.elim (fun hb => l b hb o e n) fun q => ?_⟩
  subst q
  exact Kp.eq (k o e n)
/-- frozen from now on -/
def Wd.frz (w : Wd) (O : List Addr) : Wd := { w with F := fun a => w.F a ∨ a ∈ O }
theorem Wf.frz (wf : Wf G w H) {O : List Addr} (h : ∀ a ∈ O, (a ∉ w.ρ ∧ a ∉ w.O) ∧ ∃ o, H a = some o ∧ ∀ ps, o ≠ .tbl ps) : Wf G (w.frz O) H :=
  ⟨fun a z => z.elim (wf.fa a) fun z => (h a z).2, fun a z => z.elim (wf.fr a) fun z => (h a z).1, wf.nd, wf.ra, wf.oa, wf.tb⟩
mutual
theorem FR.frz {O : List Addr} : ∀ {d : D} {v : V}, FR G w H d v → FR G (w.frz O) H d v
  | _, _, .non => .non
  | _, _, .bl b => .bl b
  | _, _, .int i => .int i
  | _, _, .str x => .str x
  | _, _, .tup h hs => .tup (h.elim (fun h => .inl ⟨.inl h.1, h.2⟩) .inr) (FRs.frz hs)
  | _, _, .lst h hs => .lst ⟨.inl h.1, h.2⟩ (FRs.frz hs)
  | _, _, .ins hf h hc hl hs => .ins (.inl hf) h hc hl (FRs.frz hs)
  | _, _, .ref h => .ref h
  | _, _, .dic hf h hs => .dic (.inl hf) h (FRs.frz hs)
  | _, _, .dit hf h hs => .dit (.inl hf) h (FRs.frz hs)
  | _, _, .tx hf hd h hs => .tx (.inl hf) hd h (FRs.frz hs)
theorem FRs.frz {O : List Addr} : ∀ {ds : List D} {vs : List V}, FRs G w H ds vs → FRs G (w.frz O) H ds vs
  | _, _, .nil => .nil
  | _, _, .cons n h hs => .cons n (FR.frz h) (FRs.frz hs)
end
mutual
theorem VR.frz {O' : List Addr} : ∀ {l : Nat} {O : List Addr} {d : D} {v : V}, VR G w H l O d v → (∀ a ∈ O, a ∈ O') → FR G (w.frz O') H d v
  | _, _, _, _, .zero h, _ => h.frz
  | _, _, _, _, .nc _ h, _ => h.frz
  | _, _, _, _, .lst h _ _ hs, hO => .lst ⟨.inr (hO _ (by simp)), h⟩ (VRs.frz hs fun a ha => hO a (by simp [ha]))
  | _, _, _, _, .dic h _ _ hs, hO => .dic (.inr (hO _ (by simp))) (.inl h) (VRs.frz hs fun a ha => hO a (by simp [ha]))
  | _, _, _, _, .dit h _ _ hs, hO => .dit (.inr (hO _ (by simp))) (.inl h) (VRs.frz hs fun a ha => hO a (by simp [ha]))
theorem VRs.frz {O' : List Addr} : ∀ {l : Nat} {O : List Addr} {ds : List D} {vs : List V}, VRs G w H l O ds vs → (∀ a ∈ O, a ∈ O') → FRs G (w.frz O') H ds vs
  | _, _, _, _, .nil, _ => .nil
  | _, _, _, _, .cons n h hs, hO => .cons n (VR.frz h fun a ha => hO a (by simp [ha])) (VRs.frz hs fun a ha => hO a (by simp [ha]))
end
mutual
theorem VR.apart {O' : List Addr} : ∀ {l : Nat} {O : List Addr} {d : D} {v : V}, VR G w H l O d v → (∀ a ∈ O, a ∉ O') → VR G (w.frz O') H l O d v
  | _, _, _, _, .zero h, _ => .zero h.frz
  | _, _, _, _, .nc hc h, _ => .nc hc h.frz
  | _, _, _, _, .lst h hf hn hs, hO => .lst h (fun z => z.elim hf (hO _ (by simp))) hn (VRs.apart hs fun a ha => hO a (by simp [ha]))
  | _, _, _, _, .dic h hf hn hs, hO => .dic h (fun z => z.elim hf (hO _ (by simp))) hn (VRs.apart hs fun a ha => hO a (by simp [ha]))
  | _, _, _, _, .dit h hf hn hs, hO => .dit h (fun z => z.elim hf (hO _ (by simp))) hn (VRs.apart hs fun a ha => hO a (by simp [ha]))
theorem VRs.apart {O' : List Addr} : ∀ {l : Nat} {O : List Addr} {ds : List D} {vs : List V}, VRs G w H l O ds vs → (∀ a ∈ O, a ∉ O') → VRs G (w.frz O') H l O ds vs
  | _, _, _, _, .nil, _ => .nil
  | _, _, _, _, .cons n h hs, hO => .cons n (VR.apart h fun a ha => hO a (by simp [ha])) (VRs.apart hs fun a ha => hO a (by simp [ha]))
end
mutual
theorem VR.lists : ∀ {l : Nat} {O : List Addr} {d : D} {v : V}, VR G w H l O d v → ∀ a ∈ O, ∃ o, H a = some o ∧ ∀ ps, o ≠ .tbl ps
  | _, _, _, _, .zero _ => by simp
  | _, _, _, _, .nc _ _ => by simp
  | _, _, _, _, .lst h hf hn hs => fun b hb => by
    rcases List.mem_cons.mp hb with rfl | hb
    · exact ⟨_, h, fun ps e => by cases e⟩
    · exact VRs.lists hs b hb
  | _, _, _, _, .dic h hf hn hs => fun b hb => by
    rcases List.mem_cons.mp hb with rfl | hb
    · exact ⟨_, h, fun ps e => by cases e⟩
    · exact VRs.lists hs b hb
  | _, _, _, _, .dit h hf hn hs => fun b hb => by
    rcases List.mem_cons.mp hb with rfl | hb
    · exact ⟨_, h, fun ps e => by cases e⟩
    · exact VRs.lists hs b hb
theorem VRs.lists : ∀ {l : Nat} {O : List Addr} {ds : List D} {vs : List V}, VRs G w H l O ds vs → ∀ a ∈ O, ∃ o, H a = some o ∧ ∀ ps, o ≠ .tbl ps
  | _, _, _, _, .nil => by simp
  | _, _, _, _, .cons _ h hs => fun b hb => (List.mem_append.mp hb).elim (VR.lists h b) (VRs.lists hs b)
end
end
end PV

/-! part PV3 -/
/-! PV3: the store, the slots, what a run's end asks; the judgements. -/
noncomputable section
namespace PV
open PySem L2 LamX NdefX

inductive FDs (G : Gx) (w : Wd) (H : Hp) : List (Nat × D) → List V → List Addr → Prop
  | nil : FDs G w H [] [] []
  | cons {l : Nat} {d : D} {v : V} {O O' : List Addr} {xs : List (Nat × D)} {vs : List V} : isR d = false → VR G w H l O d v → FDs G w H xs vs O' → FDs G w H ((l, d) :: xs) (v :: vs) (O ++ O')
inductive NR (G : Gx) (w : Wd) (H : Hp) : Nd → Addr → List Addr → Prop
  | nl {a : Addr} {vs : List V} {ds : List D} : H a = some (.lst vs) → FRs G w H ds vs → NR G w H (.nl ds) a []
  | ni {a C dx : Addr} {c : Nat} {fs : List Str} {xs : List (Nat × D)} {vs : List V} {O : List Addr} : H a = some (.ins C dx ((fs.take xs.length).zip vs)) → G.cl c = some (C, fs) → xs.length ≤ fs.length → FDs G w H xs vs O → NR G w H (.ni c xs) a O
  | nk {a C dx : Addr} {c : Nat} {fs : List Str} {xs : List (Nat × D)} {vs : List V} {O : List Addr} : w.T a = some O → H a = some (.ins C dx ((fs.take xs.length).zip vs)) → G.cl c = some (C, fs) → xs.length ≤ fs.length → FDs G w (unf H) xs vs O → (∀ b ∈ O, Pl H b) → NR G w H (.nk c xs) a O
  | nd {a : Addr} {ob : Obj} {kvs : List (Ky × D)} {vs : List V} : w.T a = some [] → H a = some (.frz ob (.dK (zK kvs vs))) → FRs G w H (kvs.map (·.2)) vs → NR G w H (.nd kvs) a []
/-- a locked object of the store's -/
def isLk : Nd → Bool
  | .nk _ _ => true
  | .nd _ => true
  | _ => false
inductive NRs (G : Gx) (w : Wd) (H : Hp) : Sto → List Addr → List Addr → Prop
  | nil : NRs G w H [] [] []
  | cons {n : Nd} {st : Sto} {a : Addr} {as O O' : List Addr} : NR G w H n a O → NRs G w H st as O' → NRs G w H (n :: st) (a :: as) (O ++ O')
/-- the state: the world and the store -/
structure St (G : Gx) (w : Wd) (H : Hp) (st : Sto) : Prop where
  wf : Wf G w H
  nr : NRs G w H st w.ρ w.O
  nd : w.O.Nodup
  lk : ∀ a L, w.T a = some L → ∃ (n : Nat) (nd : Nd), w.ρ[n]? = some a ∧ st[n]? = some nd ∧ isLk nd = true
inductive SL (G : Gx) (w : Wd) (H : Hp) : L2.St → Env → List (List Addr) → Prop
  | nil : SL G w H [] [] []
  | no {x : Option V} {σ : L2.St} {ρ : Env} {Os : List (List Addr)} : SL G w H σ ρ Os → SL G w H (x :: σ) (none :: ρ) ([] :: Os)
  | so {l : Nat} {d : D} {v : V} {O : List Addr} {σ : L2.St} {ρ : Env} {Os : List (List Addr)} : VR G w H l O d v → SL G w H σ ρ Os → SL G w H (some v :: σ) (some (l, d) :: ρ) (O :: Os)
structure Gd (G : Gx) (w : Wd) (H : Hp) (σ : L2.St) (ρ : Env) (Os : List (List Addr)) (st : Sto) : Prop where
  s : St G w H st
  sl : SL G w H σ ρ Os
  nd : Os.flatten.Nodup
  ap : ∀ a ∈ Os.flatten, a ∉ w.O

/-- a lent container at a -/
inductive LV (G : Gx) (w : Wd) (H : Hp) : List Addr → D → V → Prop
  | lst {a : Addr} {vs : List V} {ds : List D} : H a = some (.lst vs) → FRs G w H ds vs → LV G w H [a] (.lst ds) (.ref a)
  | dic {a : Addr} {kvs : List (Ky × D)} {vs : List V} : Rd H a (.dK (zK kvs vs)) → FRs G w H (kvs.map (·.2)) vs → LV G w H [a] (.dic kvs) (.ref a)
  | dit {a : Addr} {kvs : List (List Ky × D)} {vs : List V} : Rd H a (.dT (zK kvs vs)) → FRs G w H (kvs.map (·.2)) vs → LV G w H [a] (.dit kvs) (.ref a)
/-- how a value is held -/
def KR (G : Gx) (Os : List (List Addr)) (w : Wd) (H H0 : Hp) (x : KD) (v : V) : Prop := match x.1 with
  | .fz => FR G w H x.2 v
  | .an => ∃ O, (∀ l, VR G w H (l + 1) O x.2 v) ∧ O.Nodup ∧ ∀ a ∈ O, H0 a = none ∧ a ∉ w.O
  | .fr l => ∃ O, VR G w H l O x.2 v ∧ O.Nodup ∧ ∀ a ∈ O, H0 a = none ∧ a ∉ w.O
  | .bo l => ∃ O, VR G w H l O x.2 v ∧ ∀ a ∈ O, a ∈ Os.flatten
  | .lk => ∃ O, LV G w H O x.2 v ∧ ∀ a ∈ O, TB w a ∧ Pl H a
inductive KRs (G : Gx) (Os : List (List Addr)) (w : Wd) (H H0 : Hp) : List KD → List V → Prop
  | nil : KRs G Os w H H0 [] []
  | cons {x : KD} {v : V} {xs : List KD} {vs : List V} : KR G Os w H H0 x v → KRs G Os w H H0 xs vs → KRs G Os w H H0 (x :: xs) (v :: vs)
def XR (G : Gx) (w : Wd) (H : Hp) (p : D) (d : Option Addr) : Prop := (p = .non ∧ d = none) ∨ ∃ dd v, d = some dd ∧ H dd = some (.xd [(("row" : Str), v)]) ∧ FR G w H p v

def Out {α β : Type} (G : Gx) (Rel : Wd → Hp → Hp → α → β → Prop) (w : Wd) (H : Hp) (r : R α) (W : XK) (Q : β → Hp → Prop) : Prop := match r with
  | .ok a st' => ∀ b w' H', Po w H w' H' → St G w' H' st' → Rel w' H' H a b → Q b H'
  | .ex c p st' => ∀ d w' H', Po w H w' H' → St G w' H' st' → XR G w' H' p d → W (.ref (G.ex c)) d H'
  | .no => False
abbrev WS (W : WX) (σ : L2.St) : XK := fun c d H' => W c d σ H'

def tE (G : Gx) (P : Pr) (W : WX) (e : E) : TE := fun σ H Q => ∃ w ρ Os st, Gd G w H σ ρ Os st ∧ Out G (KR G Os) w H (evE P e ρ st) (WS W σ) Q
def BR (w : Wd) (H H0 : Hp) (a b : Bool) : Prop := a = b
def evB (P : Pr) (e : E) (ρ : Env) : M Bool := do
  let x ← evE P e ρ
  ofO (boolO x.2)
def tT (G : Gx) (P : Pr) (W : WX) (e : E) : TT := fun σ H Q => ∃ w ρ Os st, Gd G w H σ ρ Os st ∧ Out G BR w H (evB P e ρ st) (WS W σ) Q
def tA (G : Gx) (P : Pr) (W : WX) (es : List E) : TA := fun σ H Q => ∃ w ρ Os st, Gd G w H σ ρ Os st ∧ Out G (KRs G Os) w H (evEs P es ρ st) (WS W σ) Q

/-! how much is known of an exception that leaves: 0: its class, what it bears; 1: that its context is None, too -/
def TkM (n : Nat) (X : Cx) (W : WX) : Prop := match n with
  | 0 => L2.Takes X W
  | _ + 1 => L2N.Takes X W
def CXm (n : Nat) (P : Program) (w : World) : CXT := match n with
  | 0 => L2.CX P w
  | _ + 1 => L2N.CX P w
section
variable {X : Cx} {W : WX} {n : Nat}
theorem sky_imp {B h : Heap} {l : List PySem.Env} {a L : Addr} {Z Z' : Obj → Prop} (z : ∀ o, Z o → Z' o) (x : L2.Sky B l a Z L h) : L2.Sky B l a Z' L h := by
  rcases x with ⟨h1, h2, h3, oe, vs, h4, h5, h6⟩ | x | x
  · exact .inl ⟨h1, h2, h3, oe, vs, h4, z _ h5, h6⟩
  · exact .inr (.inl (L2H.flyingZ_imp z x))
  · exact .inr (.inr ⟨x.1, x.2.1, x.2.2.1, L2H.tracedZ_imp z x.2.2.2⟩)
theorem xe_zc {u : Value} {s' : Shared} (x : L2N.XE X W u s') : L2.XE X W u s' := by
  obtain ⟨a, B, sI, pins, σ, H, cls, d, e, I, nb, up, sky, na, os, ag, q⟩ := x
  exact ⟨a, B, sI, pins, σ, H, cls, d, e, I, nb, up, sky_imp (fun o z => z.zc) sky, na, os, ag, q⟩
theorem TkM.l (t : L2.Takes X W) : TkM n X W := match n with
  | 0 => t
  | _ + 1 => fun u s' x => t u s' (xe_zc x)
theorem TkM.nn (t : TkM n X W) : L2N.Takes X W := match n, t with
  | 0, t => fun u s' x => t u s' (xe_zc x)
  | _ + 1, t => t
theorem TkM.z (h : n = 0) (t : TkM n X W) : L2.Takes X W := by
  subst h
  exact t
theorem TkM.zero : TkM n X (fun _ _ _ _ => False) := TkM.l L2.takes0
theorem TkM.pass (tk : TkM n X W) (σ : L2.St) : PassesAt (CXm n X.prog X.w) X σ (WE W σ) := match n, tk with
  | 0, tk => L2.passAt tk σ
  | _ + 1, tk => L2N.passAt tk σ
theorem TkM.of (hs : X.stack = X.env :: X.outer) (hf : X.env.frame = some X.env.locals) (hex : X.ex = []) {E : XK} {E₁ : Value → Shared → Prop}
    (hx : X.xe = fun e s' => wpAny (model X.prog X.w) X.A (leaving X.env e) (fun _ s'' => CXm n X.prog X.w X.outer X.H_0 X.s_0 E e s'') E₁ s') : TkM n X (fun cls d _ H => E cls d H) := match n, hx with
  | 0, hx => L2.takes_of hs hf hex hx
  | _ + 1, hx => L2N.takes_of hs hf hex hx
theorem cxm_l {P : Program} {w : World} {o : List PySem.Env} {H : Hp} {s : Shared} {E : XK} {e : Value} {s' : Shared} (h : CXm n P w o H s E e s') : L2.CX P w o H s E e s' := match n, h with
  | 0, h => h
  | _ + 1, ⟨a, B, H', cls, d, ea, fl, r⟩ => ⟨a, B, H', cls, d, ea, L2H.flyingZ_imp (fun _ z => z.zc) fl, r⟩
theorem fnm_l {P : Program} {w : World} {K : PySem.W.Frag} {mg : Str → Option Value} {base : Heap} {k : Nat} {f : Addr} {fd : FuncData} {ps : List Str} {sp : Sp} (F : FnOk P w K mg base (CXm n P w) k f fd ps sp) : FnOk P w K mg base (CXm 0 P w) k f fd ps sp :=
  ⟨F.len, fun A outer s H args us vs Q E hr e0 hb rv hsp => codeAny_mono (F.run A outer s H args us vs Q E hr e0 hb rv hsp) fun r s' hq => by
    cases r with
    | ok fl => cases fl <;> exact hq
    | error e => exact cxm_l (show CXm n P w outer H s E e s' from hq)⟩
end
/-- the judgements: the text e does what the small term E says -/
def DE (X : Cx) (G : Gx) (P : Pr) (e : Expr) (E : E) : Prop := ∀ W, TkM P.nm X W → PE X e (tE G P W E)
def DT (X : Cx) (G : Gx) (P : Pr) (e : Expr) (E : E) : Prop := ∀ W, TkM P.nm X W → PT X e (tT G P W E)
def DA (X : Cx) (G : Gx) (P : Pr) (es : List Expr) (Es : List E) : Prop := ∀ W, TkM P.nm X W → PA X es (tA G P W Es)

section
variable {G : Gx} {w w' w1 : Wd} {H H' H0 H1 : Hp}
theorem SL.po (wf : Wf G w H) (p : Po w H w' H') : ∀ {σ : L2.St} {ρ : Env} {Os : List (List Addr)}, SL G w H σ ρ Os → (∀ a ∈ Os.flatten, a ∉ w.O) → SL G w' H' σ ρ Os
  | _, _, _, .nil, _ => .nil
  | _, _, _, .no h, ha => .no (SL.po wf p h fun a hm => ha a (by simpa using hm))
  | _, _, _, .so hv h, ha => .so (hv.po wf p fun a hm => ha a (by simp [hm])) (SL.po wf p h fun a hm => ha a (by
      rw [List.flatten_cons]; exact List.mem_append_right _ hm))
theorem SL.there : ∀ {σ : L2.St} {ρ : Env} {Os : List (List Addr)}, SL G w H σ ρ Os → ∀ a ∈ Os.flatten, H a ≠ none ∧ ¬ w.F a ∧ a ∉ w.ρ
  | _, _, _, .nil => by simp
  | _, _, _, .no h => fun a ha => SL.there h a (by simpa using ha)
  | _, _, _, .so hv h => fun a ha => by
    rw [List.flatten_cons] at ha
    exact (List.mem_append.mp ha).elim (hv.there a) (SL.there h a)
theorem SL.apart {O' : List Addr} : ∀ {σ : L2.St} {ρ : Env} {Os : List (List Addr)}, SL G w H σ ρ Os → (∀ a ∈ Os.flatten, a ∉ O') → SL G (w.frz O') H σ ρ Os
  | _, _, _, .nil, _ => .nil
  | _, _, _, .no h, ha => .no (SL.apart h fun a hm => ha a (by simpa using hm))
  | _, _, _, .so hv h, ha => .so (hv.apart fun a hm => ha a (by simp [hm])) (SL.apart h fun a hm => ha a (by
      rw [List.flatten_cons]; exact List.mem_append_right _ hm))
theorem Gd.po {σ : L2.St} {ρ : Env} {Os : List (List Addr)} {st st' : Sto} (g : Gd G w H σ ρ Os st) (p : Po w H w' H') (s : St G w' H' st') : Gd G w' H' σ ρ Os st' :=
  ⟨s, g.sl.po g.s.wf p g.ap, g.nd, fun a ha => p.outO (g.sl.there a ha).1 (g.ap a ha)⟩
theorem TB.same {a : Addr} {o : HO} (t : TB w a) (p : Po w H w' H') (h : unf H a = some o) (n : ∀ ps, o ≠ .tbl ps) : unf H' a = some o := by
  obtain ⟨u, e, rfl⟩ := unf_of h
  exact kp_same ((t.po p).2 u e (unfO_tbl n))
mutual
theorem VR.poU (wf : Wf G w H) (p : Po w H w' H') : ∀ {l : Nat} {O : List Addr} {d : D} {v : V}, VR G w (PV.unf H) l O d v → (∀ a ∈ O, TB w a) → VR G w' (PV.unf H') l O d v
  | _, _, _, _, .zero h, _ => .zero (h.unf'.po wf p).unf
  | _, _, _, _, .nc hc h, _ => .nc hc (h.unf'.po wf p).unf
  | _, _, _, _, .lst h hf hn hs, hO => .lst ((hO _ (by simp)).same p h fun ps e => by cases e) (fun z => (p.fn _ z).elim hf fun e => e.unf.no h (fun _ z => by cases z) fun _ z => by cases z) (p.out (fun e => by rw [unf_none.mpr e] at h; cases h) hn) (VRs.poU wf p hs fun a ha => hO a (by simp [ha]))
  | _, _, _, _, .dic h hf hn hs, hO => .dic ((hO _ (by simp)).same p h fun ps e => by cases e) (fun z => (p.fn _ z).elim hf fun e => e.unf.no h (fun _ z => by cases z) fun _ z => by cases z) (p.out (fun e => by rw [unf_none.mpr e] at h; cases h) hn) (VRs.poU wf p hs fun a ha => hO a (by simp [ha]))
  | _, _, _, _, .dit h hf hn hs, hO => .dit ((hO _ (by simp)).same p h fun ps e => by cases e) (fun z => (p.fn _ z).elim hf fun e => e.unf.no h (fun _ z => by cases z) fun _ z => by cases z) (p.out (fun e => by rw [unf_none.mpr e] at h; cases h) hn) (VRs.poU wf p hs fun a ha => hO a (by simp [ha]))
theorem VRs.poU (wf : Wf G w H) (p : Po w H w' H') : ∀ {l : Nat} {O : List Addr} {ds : List D} {vs : List V}, VRs G w (PV.unf H) l O ds vs → (∀ a ∈ O, TB w a) → VRs G w' (PV.unf H') l O ds vs
  | _, _, _, _, .nil, _ => .nil
  | _, _, _, _, .cons n h hs, hO => .cons n (VR.poU wf p h fun a ha => hO a (by simp [ha])) (VRs.poU wf p hs fun a ha => hO a (by simp [ha]))
end
theorem rd_TB {a : Addr} {u : HO} (n : ∀ ps, u ≠ .tbl ps) (t : TB w a) (p : Po w H w' H') (h : Rd H a u) : Rd H' a u := by
  refine Kp.rd (fun o e => (t.po p).2 o e fun ps z => ?_) h
  subst z
  rcases h with h | ⟨ob, h⟩
  · rw [h] at e; exact n ps (Option.some.inj e)
  · rw [h] at e; cases e
theorem LV.po (wf : Wf G w H) (p : Po w H w' H') {O : List Addr} {d : D} {v : V} (h : LV G w H O d v) (t : ∀ a ∈ O, TB w a) : LV G w' H' O d v := by
  cases h with
  | lst h hs => exact .lst ((t _ (by simp)).po p |>.2 _ h fun ps e => by cases e) (hs.po wf p)
  | dic h hs => exact .dic (rd_TB (fun ps e => by cases e) (t _ (by simp)) p h) (hs.po wf p)
  | dit h hs => exact .dit (rd_TB (fun ps e => by cases e) (t _ (by simp)) p h) (hs.po wf p)
theorem LV.ncf {O : List Addr} {d : D} {v : V} (h : LV G w H O d v) (hc : isC d = false) : FR G w (PV.unf H) d v := by cases h <;> cases hc
theorem tabsN_unf {T : List NTab} (t : TabsN T H) : TabsN T (unf H) := fun p hp => by
  obtain ⟨ps, h1, h2, h3⟩ := t p hp
  refine ⟨ps, unf_some h1, h2, fun pos cv hc => ?_⟩
  obtain ⟨c, e1, e2⟩ := h3 pos cv hc
  exact ⟨c, e1, unf_some e2⟩
theorem Wf.u (wf : Wf G w H) : Wf G w (PV.unf H) := wf.unf (tabsN_unf wf.tb)
theorem unf_upd {p : Addr} {o : HO} : unf (upd H p o) = upd (unf H) p (unfO o) := by
  funext a
  unfold unf upd
  split <;> rfl
theorem KR.po {Os : List (List Addr)} {x : KD} {v : V} (wf : Wf G w H) (p : Po w H w' H') (ha : ∀ a ∈ Os.flatten, a ∉ w.O) (h : KR G Os w H H0 x v) : KR G Os w' H' H0 x v := by
  obtain ⟨k, d⟩ := x
  cases k with
  | fz => exact FR.po wf p h
  | an =>
    obtain ⟨O, hv, hn, hO⟩ := h
    exact ⟨O, fun l => (hv l).po wf p fun a h => (hO a h).2, hn, fun a h => ⟨(hO a h).1, p.outO ((hv 0).there a h).1 (hO a h).2⟩⟩
  | fr l =>
    obtain ⟨O, hv, hn, hO⟩ := h
    exact ⟨O, hv.po wf p fun a h => (hO a h).2, hn, fun a h => ⟨(hO a h).1, p.outO (hv.there a h).1 (hO a h).2⟩⟩
  | bo l =>
    obtain ⟨O, hv, hO⟩ := h
    exact ⟨O, hv.po wf p fun a h => ha a (hO a h), hO⟩
  | lk =>
    obtain ⟨O, hv, hO⟩ := h
    refine ⟨O, hv.po wf p fun a h => (hO a h).1, fun a h => ?_⟩
    obtain ⟨t, k⟩ := (hO a h).1.po p
    obtain ⟨o, e, n1, n2, n3⟩ := (hO a h).2
    exact ⟨t, o, (k o e n3).pl n1 n2, n1, n2, n3⟩
theorem KR.base {Os : List (List Addr)} {x : KD} {v : V} (p : Po w0 H0 w1 H1) (h : KR G Os w H H1 x v) : KR G Os w H H0 x v := by
  obtain ⟨k, d⟩ := x
  cases k with
  | fz => exact h
  | an =>
    obtain ⟨O, hv, hn, hO⟩ := h
    exact ⟨O, hv, hn, fun a h => ⟨p.th a (hO a h).1, (hO a h).2⟩⟩
  | fr l =>
    obtain ⟨O, hv, hn, hO⟩ := h
    exact ⟨O, hv, hn, fun a h => ⟨p.th a (hO a h).1, (hO a h).2⟩⟩
  | bo l => exact h
  | lk => exact h
theorem KRs.po {Os : List (List Addr)} (wf : Wf G w H) (p : Po w H w' H') (ha : ∀ a ∈ Os.flatten, a ∉ w.O) : ∀ {xs : List KD} {vs : List V}, KRs G Os w H H0 xs vs → KRs G Os w' H' H0 xs vs
  | _, _, .nil => .nil
  | _, _, .cons h hs => .cons (h.po wf p ha) (KRs.po wf p ha hs)
theorem KRs.base {w0 : Wd} {Os : List (List Addr)} (p : Po w0 H0 w1 H1) : ∀ {xs : List KD} {vs : List V}, KRs G Os w H H1 xs vs → KRs G Os w H H0 xs vs
  | _, _, .nil => .nil
  | _, _, .cons h hs => .cons (h.base p) (KRs.base p hs)

/-- a relation that looks back as far as one likes -/
structure Based {α β : Type} (Rel : Wd → Hp → Hp → α → β → Prop) : Prop where
  go : ∀ (w0 w1 w : Wd) (H0 H1 H : Hp) (a : α) (b : β), Po w0 H0 w1 H1 → Rel w H H1 a b → Rel w H H0 a b
theorem based_BR : Based BR := ⟨fun _ _ _ _ _ _ _ _ _ h => h⟩
theorem Out.later {α β : Type} {Rel : Wd → Hp → Hp → α → β → Prop} (hb : Based Rel) {r : R α} {W : XK} {Q : β → Hp → Prop} (p : Po w H w1 H1) (h : Out G Rel w H r W Q) : Out G Rel w1 H1 r W Q := by
  cases r with
  | ok a st => exact fun b w' H' p' s rel => h b w' H' (p.trans p') s (hb.go _ _ _ _ _ _ _ _ p rel)
  | ex c q st => exact fun d w' H' p' s x => h d w' H' (p.trans p') s x
  | no => exact h
/-- one after another; the base (w, H), where one stands (wc, Hc) -/
theorem Out.bind {α β γ δ : Type} {wc : Wd} {Hc : Hp} {Rel : Wd → Hp → Hp → α → β → Prop} {Rel2 : Wd → Hp → Hp → γ → δ → Prop} {m : M α} {f : α → M γ} {st : Sto} {W : XK} {Q : δ → Hp → Prop} {Q1 : β → Hp → Prop} (pc : Po w H wc Hc) (h : Out G Rel2 w H ((m >>= f) st) W Q)
    (k : ∀ a st1 b w1 H1, Po wc Hc w1 H1 → St G w1 H1 st1 → Rel w1 H1 Hc a b → Out G Rel2 w H (f a st1) W Q → Q1 b H1) : Out G Rel wc Hc (m st) W Q1 := by
  have e : (m >>= f) st = match m st with
    | .ok a s1 => f a s1
    | .ex c p s1 => .ex c p s1
    | .no => .no := rfl
  rw [e] at h
  cases q : m st with
  | ok a s1 =>
    rw [q] at h
    exact fun b w' H' p s rel => k a s1 b w' H' p s rel h
  | ex c d s1 =>
    rw [q] at h
    exact fun d' w' H' p s x => h d' w' H' (pc.trans p) s x
  | no =>
    rw [q] at h
    exact h
/-- an expression ahead of more -/
theorem tE_bind {γ δ : Type} {wc : Wd} {Hc : Hp} {P : Pr} {W : WX} {a : E} {σ : L2.St} {ρ : Env} {Os : List (List Addr)} {st : Sto} {Rel2 : Wd → Hp → Hp → γ → δ → Prop} {f : KD → M γ} {Q : δ → Hp → Prop} {K : VK} (g : Gd G wc Hc σ ρ Os st) (pc : Po w H wc Hc) (h : Out G Rel2 w H ((evE P a ρ >>= f) st) (WS W σ) Q)
    (k : ∀ x st1 v w1 H1, Gd G w1 H1 σ ρ Os st1 → Po wc Hc w1 H1 → KR G Os w1 H1 Hc x v → Out G Rel2 w H (f x st1) (WS W σ) Q → K v H1) : tE G P W a σ Hc K :=
  ⟨wc, ρ, Os, st, g, Out.bind pc h fun x st1 v w1 H1 p s r o => k x st1 v w1 H1 (g.po p s) p r o⟩
theorem Out.bindq {α β γ δ : Type} {wc : Wd} {Hc : Hp} {Rel : Wd → Hp → Hp → α → β → Prop} {Rel2 : Wd → Hp → Hp → γ → δ → Prop} {m : M α} {f : α → M γ} {st : Sto} {W : XK} {Q : δ → Hp → Prop} {Q1 : β → Hp → Prop} (pc : Po w H wc Hc) (h : Out G Rel2 w H ((m >>= f) st) W Q)
    (k : ∀ a st1 b w1 H1, m st = .ok a st1 → Po wc Hc w1 H1 → St G w1 H1 st1 → Rel w1 H1 Hc a b → Out G Rel2 w H (f a st1) W Q → Q1 b H1) : Out G Rel wc Hc (m st) W Q1 := by
  have e : (m >>= f) st = match m st with
    | .ok a s1 => f a s1
    | .ex c p s1 => .ex c p s1
    | .no => .no := rfl
  rw [e] at h
  cases q : m st with
  | ok a s1 =>
    rw [q] at h
    exact fun b w' H' p s rel => k a s1 b w' H' q p s rel h
  | ex c d s1 =>
    rw [q] at h
    exact fun d' w' H' p s x => h d' w' H' (pc.trans p) s x
  | no =>
    rw [q] at h
    exact h
theorem M.of_bind {α β : Type} {m : M α} {f : α → M β} {st st2 : Sto} {b : β} (h : (m >>= f) st = .ok b st2) : ∃ a st1, m st = .ok a st1 ∧ f a st1 = .ok b st2 := by
  have e : (m >>= f) st = match m st with
    | .ok a s1 => f a s1
    | .ex c p s1 => .ex c p s1
    | .no => .no := rfl
  rw [e] at h
  cases q : m st with
  | ok a s1 => rw [q] at h; exact ⟨a, s1, rfl, h⟩
  | ex c d s1 => rw [q] at h; cases h
  | no => rw [q] at h; cases h
theorem evEs_len {P : Pr} {ρ : Env} : ∀ {es : List E} {st st1 : Sto} {xs : List KD}, evEs P es ρ st = .ok xs st1 → xs.length = es.length
  | [], st, st1, xs, h => by
    rw [evEs] at h
    cases h; rfl
  | e :: es, st, st1, xs, h => by
    rw [evEs] at h
    obtain ⟨x, s1, _, h⟩ := M.of_bind h
    obtain ⟨ys, s2, h2, h⟩ := M.of_bind h
    cases h
    simp [evEs_len h2]
theorem tA_bind {γ δ : Type} {wc : Wd} {Hc : Hp} {P : Pr} {W : WX} {es : List E} {σ : L2.St} {ρ : Env} {Os : List (List Addr)} {st : Sto} {Rel2 : Wd → Hp → Hp → γ → δ → Prop} {f : List KD → M γ} {Q : δ → Hp → Prop} {K : List V → Hp → Prop} (g : Gd G wc Hc σ ρ Os st) (pc : Po w H wc Hc) (h : Out G Rel2 w H ((evEs P es ρ >>= f) st) (WS W σ) Q)
    (k : ∀ x st1 v w1 H1, x.length = es.length → Gd G w1 H1 σ ρ Os st1 → Po wc Hc w1 H1 → KRs G Os w1 H1 Hc x v → Out G Rel2 w H (f x st1) (WS W σ) Q → K v H1) : tA G P W es σ Hc K :=
  ⟨wc, ρ, Os, st, g, Out.bindq pc h fun x st1 v w1 H1 q p s r o => k x st1 v w1 H1 (evEs_len q) (g.po p s) p r o⟩
theorem tT_bind {γ δ : Type} {wc : Wd} {Hc : Hp} {P : Pr} {W : WX} {a : E} {σ : L2.St} {ρ : Env} {Os : List (List Addr)} {st : Sto} {Rel2 : Wd → Hp → Hp → γ → δ → Prop} {f : Bool → M γ} {Q : δ → Hp → Prop} {K : Bool → Hp → Prop} (g : Gd G wc Hc σ ρ Os st) (pc : Po w H wc Hc) (h : Out G Rel2 w H ((evB P a ρ >>= f) st) (WS W σ) Q)
    (k : ∀ x st1 w1 H1, Gd G w1 H1 σ ρ Os st1 → Po wc Hc w1 H1 → Out G Rel2 w H (f x st1) (WS W σ) Q → K x H1) : tT G P W a σ Hc K :=
  ⟨wc, ρ, Os, st, g, Out.bind pc h fun x st1 v w1 H1 p s (r : x = v) o => by subst r; exact k x st1 w1 H1 (g.po p s) p o⟩
/-- an option ahead of more -/
theorem Out.ofO {α γ δ : Type} {Rel2 : Wd → Hp → Hp → γ → δ → Prop} {o : Option α} {f : α → M γ} {st : Sto} {W : XK} {Q : δ → Hp → Prop} (h : Out G Rel2 w H ((PV.ofO o >>= f) st) W Q) : ∃ a, o = some a ∧ Out G Rel2 w H (f a st) W Q := by
  cases o with
  | none => exact False.elim h
  | some a => exact ⟨a, rfl, h⟩
/-- the end: a value is handed on as it stands -/
theorem Out.fin {α β : Type} {wc : Wd} {Hc : Hp} {Rel : Wd → Hp → Hp → α → β → Prop} {a : α} {b : β} {st : Sto} {W : XK} {Q : β → Hp → Prop} (h : Out G Rel w H ((pure a : M α) st) W Q) (pc : Po w H wc Hc) (s : St G wc Hc st) (r : Rel wc Hc H a b) : Q b Hc := h b wc Hc pc s r
theorem Out.ite {α β : Type} {Rel : Wd → Hp → Hp → α → β → Prop} {c : Bool} {m n : M α} {st : Sto} {W : XK} {Q : β → Hp → Prop} (h : Out G Rel w H ((if c then m else n) st) W Q) : (c = true → Out G Rel w H (m st) W Q) ∧ (c = false → Out G Rel w H (n st) W Q) := by
  cases c with
  | true => exact ⟨fun _ => h, fun z => nomatch z⟩
  | false => exact ⟨(fun z => nomatch z), fun _ => h⟩
theorem Out.ifno {α β : Type} {Rel : Wd → Hp → Hp → α → β → Prop} {c : Bool} {m : M α} {st : Sto} {W : XK} {Q : β → Hp → Prop} (h : Out G Rel w H ((if c then m else no) st) W Q) : c = true ∧ Out G Rel w H (m st) W Q := by
  cases c with
  | true => exact ⟨rfl, h⟩
  | false => exact False.elim h
/-! ### what is frozen, what is made -/
theorem Po.frz {O : List Addr} (p : Po w H w1 H1) (h : ∀ a ∈ O, H a = none) : Po w H (w1.frz O) H1 :=
  ⟨fun a z => .inl (p.fm a z), fun a z => z.elim (p.fn a) (fun z => .inr (NT.none (h a z))), p.sp, p.on, p.kn, p.kf, p.th, p.kt, p.nu⟩
theorem FDs.frz {O' : List Addr} : ∀ {xs : List (Nat × D)} {vs : List V} {O : List Addr}, FDs G w H xs vs O → (∀ a ∈ O, a ∉ O') → FDs G (w.frz O') H xs vs O
  | _, _, _, .nil, _ => .nil
  | _, _, _, .cons n h hs, hO => .cons n (h.apart fun a ha => hO a (by simp [ha])) (FDs.frz hs fun a ha => hO a (by simp [ha]))
theorem NRs.frz {O' : List Addr} : ∀ {st : Sto} {as O : List Addr}, NRs G w H st as O → (∀ a ∈ O, a ∉ O') → NRs G (w.frz O') H st as O
  | _, _, _, .nil, _ => .nil
  | _, _, _, .cons (.nl h hs) r, hO => .cons (.nl h hs.frz) (NRs.frz r fun a ha => hO a (by simp [ha]))
  | _, _, _, .cons (.ni h hc hl hs) r, hO => .cons (.ni h hc hl (hs.frz fun a ha => hO a (by simp [ha]))) (NRs.frz r fun a ha => hO a (by simp [ha]))
  | _, _, _, .cons (.nk t h hc hl hs hz) r, hO => .cons (.nk t h hc hl (hs.frz fun a ha => hO a (by simp [ha])) hz) (NRs.frz r fun a ha => hO a (by simp [ha]))
  | _, _, _, .cons (.nd t h hs) r, hO => .cons (.nd t h hs.frz) (NRs.frz r fun a ha => hO a (by simp [ha]))
/-- places that may be frozen: one's own, new -/
def Own (w : Wd) (H H0 : Hp) (O : List Addr) : Prop := ∀ a ∈ O, H0 a = none ∧ (a ∉ w.ρ ∧ a ∉ w.O) ∧ ∃ o, H a = some o ∧ ∀ ps, o ≠ .tbl ps
theorem Own.nil : Own w H H0 [] := fun _ h => nomatch h
theorem Own.app {O O' : List Addr} (h : Own w H H0 O) (h' : Own w H H0 O') : Own w H H0 (O ++ O') := fun a z => (List.mem_append.mp z).elim (h a) (h' a)
theorem St.frz {O : List Addr} {st : Sto} (s : St G w H st) (h : Own w H H0 O) : St G (w.frz O) H st :=
  ⟨s.wf.frz fun a z => (h a z).2, s.nr.frz fun a z z' => (h a z').2.1.2 z, s.nd, s.lk⟩
/-- a new thing at p -/
theorem Po.new {p : Addr} {o : HO} (q : Po w H w1 H1) (hp : H1 p = none) : Po w H w1 (upd H1 p o) :=
  ⟨q.fm, q.fn, q.sp, q.on, fun a u h1 hf h2 h3 h4 => by
    have e := q.kn a u h1 hf h2 h3 h4
    rw [upd_ne (ne_of_none e hp)]; exact e, fun a u h1 hf h2 h3 h4 => by
    have e := q.kf a u h1 hf h2 h3 h4
    obtain ⟨t, et, _⟩ := e.some
    rw [upd_ne (ne_of_none et hp)]; exact e, fun a z => q.th a (by
    unfold upd at z
    split at z
    · cases z
    · exact z), fun a L h => by
    obtain ⟨t, k, l⟩ := q.kt a L h
    refine ⟨t, fun o e n => ?_, fun b hb o e n => ?_⟩
    · have e1 := k o e n
      rw [upd_ne (ne_of_none e1 hp)]; exact e1
    · have e1 := l b hb o e n
      obtain ⟨u, eu, _⟩ := e1.some
      rw [upd_ne (ne_of_none eu hp)]; exact e1, fun a n => q.nu a (NT.upd hp n)⟩
theorem newPo {p : Addr} {o : HO} (hp : H p = none) : Po w H w (upd H p o) := Po.new (Po.refl w H) hp
theorem up {p a : Addr} {o u : HO} (hp : H p = none) (h : H a = some u) : upd H p o a = some u := by
  rw [upd_ne (ne_of_none h hp)]; exact h
mutual
theorem VR.new {p : Addr} {o : HO} (wf : Wf G w H) (hp : H p = none) : ∀ {l : Nat} {O : List Addr} {d : D} {v : V}, VR G w H l O d v → VR G w (upd H p o) l O d v
  | _, _, _, _, .zero h => .zero (h.po wf (newPo hp))
  | _, _, _, _, .nc hc h => .nc hc (h.po wf (newPo hp))
  | _, _, _, _, .lst h hf hn hs => .lst (up hp h) hf hn (VRs.new wf hp hs)
  | _, _, _, _, .dic h hf hn hs => .dic (up hp h) hf hn (VRs.new wf hp hs)
  | _, _, _, _, .dit h hf hn hs => .dit (up hp h) hf hn (VRs.new wf hp hs)
theorem VRs.new {p : Addr} {o : HO} (wf : Wf G w H) (hp : H p = none) : ∀ {l : Nat} {O : List Addr} {ds : List D} {vs : List V}, VRs G w H l O ds vs → VRs G w (upd H p o) l O ds vs
  | _, _, _, _, .nil => .nil
  | _, _, _, _, .cons n h hs => .cons n (VR.new wf hp h) (VRs.new wf hp hs)
end
theorem FDs.new {p : Addr} {o : HO} (wf : Wf G w H) (hp : H p = none) : ∀ {xs : List (Nat × D)} {vs : List V} {O : List Addr}, FDs G w H xs vs O → FDs G w (upd H p o) xs vs O
  | _, _, _, .nil => .nil
  | _, _, _, .cons n h hs => .cons n (h.new wf hp) (FDs.new wf hp hs)
theorem NRs.new {p : Addr} {o : HO} (wf : Wf G w H) (hp : H p = none) : ∀ {st : Sto} {as O : List Addr}, NRs G w H st as O → NRs G w (upd H p o) st as O
  | _, _, _, .nil => .nil
  | _, _, _, .cons (.nl h hs) r => .cons (.nl (up hp h) (hs.po wf (newPo hp))) (NRs.new wf hp r)
  | _, _, _, .cons (.ni h hc hl hs) r => .cons (.ni (up hp h) hc hl (hs.new wf hp)) (NRs.new wf hp r)
  | _, _, _, .cons (.nk t h hc hl hs hz) r => .cons (.nk t (up hp h) hc hl (by rw [unf_upd]; exact hs.new wf.u (unf_none.mpr hp)) fun b hb => let ⟨o, e, n⟩ := hz b hb; ⟨o, up hp e, n⟩) (NRs.new wf hp r)
  | _, _, _, .cons (.nd t h hs) r => .cons (.nd t (up hp h) (hs.po wf (newPo hp))) (NRs.new wf hp r)
theorem tabsN_new {T : List NTab} {p : Addr} {o : HO} (hp : H p = none) (t : TabsN T H) : TabsN T (upd H p o) := t.ext fun b u e => up hp e
theorem Wf.new {p : Addr} {o : HO} (wf : Wf G w H) (hp : H p = none) : Wf G w (upd H p o) :=
  ⟨fun a z => let ⟨u, e, n⟩ := wf.fa a z; ⟨u, up hp e, n⟩, wf.fr, wf.nd, fun a z => let ⟨⟨u, e, n⟩, q⟩ := wf.ra a z; ⟨⟨u, up hp e, n⟩, q⟩, fun a z => let ⟨u, e, n⟩ := wf.oa a z; ⟨u, up hp e, n⟩, tabsN_new hp wf.tb⟩
theorem St.new {p : Addr} {o : HO} {st : Sto} (s : St G w H st) (hp : H p = none) : St G w (upd H p o) st := ⟨s.wf.new hp, s.nr.new s.wf hp, s.nd, s.lk⟩
/-- a new place is nobody's -/
theorem Wf.free {p : Addr} (wf : Wf G w H) (hp : H p = none) : ¬ w.F p ∧ p ∉ w.ρ ∧ p ∉ w.O := by
  refine ⟨fun z => ?_, fun z => ?_, fun z => ?_⟩
  · obtain ⟨u, e, _⟩ := wf.fa p z; rw [hp] at e; cases e
  · obtain ⟨⟨u, e, _⟩, _⟩ := wf.ra p z; rw [hp] at e; cases e
  · obtain ⟨u, e, _⟩ := wf.oa p z; rw [hp] at e; cases e
theorem St.newF {p : Addr} {o : HO} {st : Sto} (s : St G w H st) (hp : H p = none) (ho : ∀ ps, o ≠ .tbl ps) : St G (w.frz [p]) (upd H p o) st := by
  have f := s.wf.free hp
  refine (s.new (o := o) hp).frz (H0 := H) fun a z => ?_
  obtain rfl : a = p := by simpa using z
  exact ⟨hp, f.2, o, upd_same, ho⟩
theorem Po.newF {p : Addr} {o : HO} (q : Po w H w1 H1) (hp : H1 p = none) : Po w H (w1.frz [p]) (upd H1 p o) := (q.new hp).frz fun a z => by
  obtain rfl : a = p := by simpa using z
  exact q.th a hp
end
end PV

/-! part PV4 -/
/-! PV4: the rules for expressions. -/
namespace PV
open PySem L2 LamX NdefX

section
variable {G : Gx} {w w' w1 : Wd} {H H' H0 H1 : Hp} {Os : List (List Addr)}
/-! ### what a held value is -/
theorem VR.fr0 {O : List Addr} {d : D} {v : V} (h : VR G w H 0 O d v) : FR G w H d v := by
  cases h with
  | zero h => exact h
  | nc _ h => exact h
theorem VRs.fr0 : ∀ {O : List Addr} {ds : List D} {vs : List V}, VRs G w H 0 O ds vs → FRs G w H ds vs
  | _, _, _, .nil => .nil
  | _, _, _, .cons n h hs => .cons n h.fr0 (VRs.fr0 hs)
theorem VR.ncf {l : Nat} {O : List Addr} {d : D} {v : V} (h : VR G w H l O d v) (hc : isC d = false) : FR G w H d v := by
  cases h with
  | zero h => exact h
  | nc _ h => exact h
  | lst _ _ _ _ => cases hc
  | dic _ _ _ _ => cases hc
  | dit _ _ _ _ => cases hc
theorem KR.nc {x : KD} {v : V} (h : KR G Os w H H0 x v) (hc : isC x.2 = false) : FR G w H x.2 v := by
  obtain ⟨k, d⟩ := x
  cases k with
  | fz => exact h
  | an => obtain ⟨O, hv, _⟩ := h; exact (hv 0).ncf hc
  | fr l => obtain ⟨O, hv, _⟩ := h; exact hv.ncf hc
  | bo l => obtain ⟨O, hv, _⟩ := h; exact hv.ncf hc
  | lk => obtain ⟨O, hv, _⟩ := h; exact (hv.ncf hc).unf'
theorem KR.int {k : Kd} {i : Int} {v : V} (h : KR G Os w H H0 (k, .int i) v) : v = .int i := by
  have q := h.nc rfl
  cases q; rfl
theorem KR.str {k : Kd} {i : Str} {v : V} (h : KR G Os w H H0 (k, .str i) v) : v = .str i := by
  have q := h.nc rfl
  cases q; rfl
theorem KR.bl {k : Kd} {i : Bool} {v : V} (h : KR G Os w H H0 (k, .bl i) v) : v = .bl i := by
  have q := h.nc rfl
  cases q; rfl
theorem KR.non {k : Kd} {v : V} (h : KR G Os w H H0 (k, .non) v) : v = .non := by
  have q := h.nc rfl
  cases q; rfl
theorem KR.tup {k : Kd} {ds : List D} {v : V} (h : KR G Os w H H0 (k, .tup ds) v) : ∃ a vs, v = .ref a ∧ FT G w.F H a vs ∧ FRs G w H ds vs := by
  have q := h.nc rfl
  cases q with
  | tup h1 h2 => exact ⟨_, _, rfl, h1, h2⟩
theorem VR.own {l : Nat} {O : List Addr} {d : D} {v : V} (h : VR G w H l O d v) (hn : ∀ a ∈ O, H0 a = none ∧ a ∉ w.O) : Own w H H0 O := fun a z =>
  ⟨(hn a z).1, ⟨(h.there a z).2.2, (hn a z).2⟩, h.lists a z⟩
/-- what may be kept can be frozen -/
theorem KR.sees {x : KD} {v : V} (h : KR G Os w H H0 x v) (hk : keepB x.1 = true) : ∃ O, Own w H H0 O ∧ ∀ O', (∀ a ∈ O, a ∈ O') → FR G (w.frz O') H x.2 v := by
  obtain ⟨k, d⟩ := x
  cases k with
  | fz => exact ⟨[], Own.nil, fun O' _ => FR.frz h⟩
  | an => obtain ⟨O, hv, _, hn⟩ := h; exact ⟨O, (hv 0).own hn, fun O' hO => (hv 0).frz hO⟩
  | fr l => obtain ⟨O, hv, _, hn⟩ := h; exact ⟨O, hv.own hn, fun O' hO => hv.frz hO⟩
  | bo l => cases hk
  | lk => cases hk
/-- a lent list -/
theorem VR.lk_lst {O : List Addr} {ds : List D} {v : V} (h : VR G w (PV.unf H) 1 O (.lst ds) v) : ∃ a vs, v = .ref a ∧ H a = some (.lst vs) ∧ FRs G w H ds vs ∧ O = [a] := by
  cases h with
  | nc hc _ => cases hc
  | lst h hf hn hs =>
    have e : ∀ {O : List Addr} {ds : List D} {vs : List V}, VRs G w (PV.unf H) 0 O ds vs → O = [] := by
      intro O ds
      induction ds generalizing O with
      | nil => intro vs h; cases h; rfl
      | cons d ds ih =>
        intro vs h
        cases h with
        | cons n h hs =>
          rw [ih hs]
          cases h <;> rfl
    exact ⟨_, _, rfl, unf_back h (fun k e => by cases e) (fun k e => by cases e), (VRs.fr0 hs).unf', by rw [e hs]⟩
theorem VR.lk_dic {O : List Addr} {kvs : List (Ky × D)} {v : V} (h : VR G w (PV.unf H) 1 O (.dic kvs) v) : ∃ a vs, v = .ref a ∧ Rd H a (.dK (zK kvs vs)) ∧ FRs G w H (kvs.map (·.2)) vs ∧ a ∈ O := by
  cases h with
  | nc hc _ => cases hc
  | dic h hf hn hs => exact ⟨_, _, rfl, unf_dK.mp h, (VRs.fr0 hs).unf', by simp⟩
theorem VR.lk_dit {O : List Addr} {kvs : List (List Ky × D)} {v : V} (h : VR G w (PV.unf H) 1 O (.dit kvs) v) : ∃ a vs, v = .ref a ∧ Rd H a (.dT (zK kvs vs)) ∧ FRs G w H (kvs.map (·.2)) vs ∧ a ∈ O := by
  cases h with
  | nc hc _ => cases hc
  | dit h hf hn hs => exact ⟨_, _, rfl, unf_dT.mp h, (VRs.fr0 hs).unf', by simp⟩
theorem LV.lk_lst {O : List Addr} {ds : List D} {v : V} (h : LV G w H O (.lst ds) v) : ∃ a vs, v = .ref a ∧ H a = some (.lst vs) ∧ FRs G w H ds vs ∧ O = [a] := by
  cases h with
  | lst h hs => exact ⟨_, _, rfl, h, hs, rfl⟩
theorem LV.lk_dic {O : List Addr} {kvs : List (Ky × D)} {v : V} (h : LV G w H O (.dic kvs) v) : ∃ a vs, v = .ref a ∧ Rd H a (.dK (zK kvs vs)) ∧ FRs G w H (kvs.map (·.2)) vs ∧ a ∈ O := by
  cases h with
  | dic h hs => exact ⟨_, _, rfl, h, hs, by simp⟩
theorem LV.lk_dit {O : List Addr} {kvs : List (List Ky × D)} {v : V} (h : LV G w H O (.dit kvs) v) : ∃ a vs, v = .ref a ∧ Rd H a (.dT (zK kvs vs)) ∧ FRs G w H (kvs.map (·.2)) vs ∧ a ∈ O := by
  cases h with
  | dit h hs => exact ⟨_, _, rfl, h, hs, by simp⟩
theorem VR.toLV {O : List Addr} {d : D} {v : V} (hc : isC d = true) (h : VR G w (PV.unf H) 1 O d v) : ∃ a, LV G w H [a] d v ∧ a ∈ O := by
  cases d with
  | lst ds =>
    obtain ⟨a, vs, rfl, h1, h2, e⟩ := h.lk_lst
    exact ⟨a, .lst h1 h2, by rw [e]; simp⟩
  | dic kvs =>
    obtain ⟨a, vs, rfl, h1, h2, e⟩ := h.lk_dic
    exact ⟨a, .dic h1 h2, e⟩
  | dit kvs =>
    obtain ⟨a, vs, rfl, h1, h2, e⟩ := h.lk_dit
    exact ⟨a, .dit h1 h2, e⟩
  | _ => cases hc
theorem VR.lst_inv {l : Nat} {O : List Addr} {ds : List D} {v : V} (h : VR G w H l O (.lst ds) v) : (FR G w H (.lst ds) v ∧ l = 0) ∨ ∃ l' a O' vs, l = l' + 1 ∧ v = .ref a ∧ O = a :: O' ∧ H a = some (.lst vs) ∧ ¬ w.F a ∧ a ∉ w.ρ ∧ VRs G w H l' O' ds vs := by
  cases h with
  | zero h => exact .inl ⟨h, rfl⟩
  | nc hc _ => cases hc
  | lst h hf hn hs => exact .inr ⟨_, _, _, _, rfl, rfl, rfl, h, hf, hn, hs⟩
theorem FR.lst_inv {ds : List D} {v : V} (h : FR G w H (.lst ds) v) : ∃ a vs, v = .ref a ∧ w.F a ∧ H a = some (.lst vs) ∧ FRs G w H ds vs := by
  cases h with
  | lst h hs => exact ⟨_, _, rfl, h.1, h.2, hs⟩
/-- a list whose items may be kept -/
theorem KR.items {k : Kd} {ds : List D} {v : V} (h : KR G Os w H H0 (k, .lst ds) v) (hk : viewB k = true) : ∃ O a vs, Own w H H0 O ∧ v = .ref a ∧ H a = some (.lst vs) ∧ ∀ O', (∀ a ∈ O, a ∈ O') → FRs G (w.frz O') H ds vs := by
  have new : ∀ {l : Nat} {O : List Addr}, VR G w H l O (.lst ds) v → (∀ a ∈ O, H0 a = none ∧ a ∉ w.O) → ∃ O a vs, Own w H H0 O ∧ v = .ref a ∧ H a = some (.lst vs) ∧ ∀ O', (∀ a ∈ O, a ∈ O') → FRs G (w.frz O') H ds vs := fun {l O} hv hn => by
    rcases hv.lst_inv with ⟨q, _⟩ | ⟨l', a, O', vs, _, e, eO, ha, _, _, hs⟩
    · obtain ⟨a, vs, e, _, ha, hs⟩ := q.lst_inv
      exact ⟨[], a, vs, Own.nil, e, ha, fun O' _ => hs.frz⟩
    · exact ⟨O, a, vs, hv.own hn, e, ha, fun O2 hO => hs.frz fun b hb => hO b (by rw [eO]; simp [hb])⟩
  cases k with
  | fz =>
    obtain ⟨a, vs, e, _, ha, hs⟩ := FR.lst_inv h
    exact ⟨[], a, vs, Own.nil, e, ha, fun O' _ => hs.frz⟩
  | an => obtain ⟨O, hv, _, hn⟩ := h; exact new (hv 0) hn
  | fr l => obtain ⟨O, hv, _, hn⟩ := h; exact new hv hn
  | bo l =>
    obtain ⟨O, hv, _⟩ := h
    have hl : l ≤ 1 := of_decide_eq_true hk
    rcases hv.lst_inv with ⟨q, _⟩ | ⟨l', a, O', vs, el, e, eO, ha, _, _, hs⟩
    · obtain ⟨a, vs, e, _, ha, hs⟩ := q.lst_inv
      exact ⟨[], a, vs, Own.nil, e, ha, fun O' _ => hs.frz⟩
    · have e0 : l' = 0 := by omega
      subst e0
      exact ⟨[], a, vs, Own.nil, e, ha, fun _ _ => hs.fr0.frz⟩
  | lk =>
    obtain ⟨O, hv, _⟩ := h
    obtain ⟨a, vs, e, ha, hs, _⟩ := hv.lk_lst
    exact ⟨[], a, vs, Own.nil, e, ha, fun _ _ => hs.frz⟩
theorem KR.head {k : Kd} {ds : List D} {v : V} (h : KR G Os w H H0 (k, .lst ds) v) : ∃ a vs, v = .ref a ∧ H a = some (.lst vs) ∧ ds.length = vs.length := by
  have of : ∀ {l : Nat} {O : List Addr}, VR G w H l O (.lst ds) v → ∃ a vs, v = .ref a ∧ H a = some (.lst vs) ∧ ds.length = vs.length := fun {l O} hv => by
    rcases hv.lst_inv with ⟨q, _⟩ | ⟨l', a, O', vs, _, e, eO, ha, _, _, hs⟩
    · obtain ⟨a, vs, e, _, ha, hs⟩ := q.lst_inv
      exact ⟨a, vs, e, ha, hs.length⟩
    · exact ⟨a, vs, e, ha, hs.length⟩
  cases k with
  | fz => exact of (.zero h)
  | an => obtain ⟨O, hv, _, hn⟩ := h; exact of (hv 0)
  | fr l => obtain ⟨O, hv, _, hn⟩ := h; exact of hv
  | bo l => obtain ⟨O, hv, _⟩ := h; exact of hv
  | lk =>
    obtain ⟨O, hv, _⟩ := h
    obtain ⟨a, vs, e, ha, hs, _⟩ := hv.lk_lst
    exact ⟨a, vs, e, ha, hs.length⟩
theorem VR.dic_inv {l : Nat} {O : List Addr} {kvs : List (Ky × D)} {v : V} (h : VR G w H l O (.dic kvs) v) : (FR G w H (.dic kvs) v ∧ l = 0) ∨ ∃ l' a O' vs, l = l' + 1 ∧ v = .ref a ∧ O = a :: O' ∧ H a = some (.dK (zK kvs vs)) ∧ ¬ w.F a ∧ a ∉ w.ρ ∧ VRs G w H l' O' (kvs.map (·.2)) vs := by
  cases h with
  | zero h => exact .inl ⟨h, rfl⟩
  | nc hc _ => cases hc
  | dic h hf hn hs => exact .inr ⟨_, _, _, _, rfl, rfl, rfl, h, hf, hn, hs⟩
theorem VR.dit_inv {l : Nat} {O : List Addr} {kvs : List (List Ky × D)} {v : V} (h : VR G w H l O (.dit kvs) v) : (FR G w H (.dit kvs) v ∧ l = 0) ∨ ∃ l' a O' vs, l = l' + 1 ∧ v = .ref a ∧ O = a :: O' ∧ H a = some (.dT (zK kvs vs)) ∧ ¬ w.F a ∧ a ∉ w.ρ ∧ VRs G w H l' O' (kvs.map (·.2)) vs := by
  cases h with
  | zero h => exact .inl ⟨h, rfl⟩
  | nc hc _ => cases hc
  | dit h hf hn hs => exact .inr ⟨_, _, _, _, rfl, rfl, rfl, h, hf, hn, hs⟩
theorem FR.dic_inv {kvs : List (Ky × D)} {v : V} (h : FR G w H (.dic kvs) v) : ∃ a vs, v = .ref a ∧ w.F a ∧ Rd H a (.dK (zK kvs vs)) ∧ FRs G w H (kvs.map (·.2)) vs := by
  cases h with
  | dic h hr hs => exact ⟨_, _, rfl, h, hr, hs⟩
theorem FR.dit_inv {kvs : List (List Ky × D)} {v : V} (h : FR G w H (.dit kvs) v) : ∃ a vs, v = .ref a ∧ w.F a ∧ Rd H a (.dT (zK kvs vs)) ∧ FRs G w H (kvs.map (·.2)) vs := by
  cases h with
  | dit h hr hs => exact ⟨_, _, rfl, h, hr, hs⟩
/-- a dict's place -/
theorem KR.dicH {k : Kd} {kvs : List (Ky × D)} {v : V} (h : KR G Os w H H0 (k, .dic kvs) v) : ∃ a vs, v = .ref a ∧ Rd H a (.dK (zK kvs vs)) ∧ kvs.length = vs.length := by
  have of : ∀ {l : Nat} {O : List Addr}, VR G w H l O (.dic kvs) v → ∃ a vs, v = .ref a ∧ Rd H a (.dK (zK kvs vs)) ∧ kvs.length = vs.length := fun {l O} hv => by
    rcases hv.dic_inv with ⟨q, _⟩ | ⟨l', a, O', vs, _, e, eO, ha, _, _, hs⟩
    · obtain ⟨a, vs, e, _, ha, hs⟩ := q.dic_inv
      exact ⟨a, vs, e, ha, by simpa using hs.length⟩
    · exact ⟨a, vs, e, .inl ha, by simpa using hs.length⟩
  cases k with
  | fz => exact of (.zero h)
  | an => obtain ⟨O, hv, _, hn⟩ := h; exact of (hv 0)
  | fr l => obtain ⟨O, hv, _, hn⟩ := h; exact of hv
  | bo l => obtain ⟨O, hv, _⟩ := h; exact of hv
  | lk =>
    obtain ⟨O, hv, _⟩ := h
    obtain ⟨a, vs, e, ha, hs, _⟩ := hv.lk_dic
    exact ⟨a, vs, e, ha, by simpa using hs.length⟩
theorem KR.ditH {k : Kd} {kvs : List (List Ky × D)} {v : V} (h : KR G Os w H H0 (k, .dit kvs) v) : ∃ a vs, v = .ref a ∧ Rd H a (.dT (zK kvs vs)) ∧ kvs.length = vs.length := by
  have of : ∀ {l : Nat} {O : List Addr}, VR G w H l O (.dit kvs) v → ∃ a vs, v = .ref a ∧ Rd H a (.dT (zK kvs vs)) ∧ kvs.length = vs.length := fun {l O} hv => by
    rcases hv.dit_inv with ⟨q, _⟩ | ⟨l', a, O', vs, _, e, eO, ha, _, _, hs⟩
    · obtain ⟨a, vs, e, _, ha, hs⟩ := q.dit_inv
      exact ⟨a, vs, e, ha, by simpa using hs.length⟩
    · exact ⟨a, vs, e, .inl ha, by simpa using hs.length⟩
  cases k with
  | fz => exact of (.zero h)
  | an => obtain ⟨O, hv, _, hn⟩ := h; exact of (hv 0)
  | fr l => obtain ⟨O, hv, _, hn⟩ := h; exact of hv
  | bo l => obtain ⟨O, hv, _⟩ := h; exact of hv
  | lk =>
    obtain ⟨O, hv, _⟩ := h
    obtain ⟨a, vs, e, ha, hs, _⟩ := hv.lk_dit
    exact ⟨a, vs, e, ha, by simpa using hs.length⟩
theorem FRs.vrs0 : ∀ {ds : List D} {vs : List V}, FRs G w H ds vs → VRs G w H 0 [] ds vs
  | _, _, .nil => .nil
  | _, _, .cons n a b => .cons (O := []) (O' := []) n (.zero a) (FRs.vrs0 b)
/-- a dict's values, as they are held -/
theorem KR.dicV {k : Kd} {kvs : List (Ky × D)} {v : V} (h : KR G Os w H H0 (k, .dic kvs) v) : ∃ a vs l O, v = .ref a ∧ Rd H a (.dK (zK kvs vs)) ∧ VRs G w H l O (kvs.map (·.2)) vs := by
  have of : ∀ {l : Nat} {O : List Addr}, VR G w H l O (.dic kvs) v → ∃ a vs l O, v = .ref a ∧ Rd H a (.dK (zK kvs vs)) ∧ VRs G w H l O (kvs.map (·.2)) vs := fun {l O} hv => by
    rcases hv.dic_inv with ⟨q, _⟩ | ⟨l', a, O', vs, _, e, eO, ha, _, _, hs⟩
    · obtain ⟨a, vs, e, _, ha, hs⟩ := q.dic_inv
      exact ⟨a, vs, 0, [], e, ha, hs.vrs0⟩
    · exact ⟨a, vs, l', O', e, .inl ha, hs⟩
  cases k with
  | fz => exact of (.zero h)
  | an => obtain ⟨O, hv, _, hn⟩ := h; exact of (hv 0)
  | fr l => obtain ⟨O, hv, _, hn⟩ := h; exact of hv
  | bo l => obtain ⟨O, hv, _⟩ := h; exact of hv
  | lk =>
    obtain ⟨O, hv, _⟩ := h
    obtain ⟨a, vs, e, ha, hs, _⟩ := hv.lk_dic
    exact ⟨a, vs, 0, [], e, ha, hs.vrs0⟩
theorem FRs.get : ∀ {ds : List D} {vs : List V} {j : Nat} {d : D}, FRs G w H ds vs → ds[j]? = some d → ∃ v, vs[j]? = some v ∧ FR G w H d v
  | _, _, _, _, .nil, e => by simp at e
  | _, _, 0, _, .cons _ h _, e => by simp at e; subst e; exact ⟨_, rfl, h⟩
  | _, _, j + 1, _, .cons _ _ hs, e => by
    obtain ⟨v, e1, h⟩ := FRs.get (j := j) hs (by simpa using e)
    exact ⟨v, by simpa using e1, h⟩
theorem VRs.get {l : Nat} : ∀ {O : List Addr} {ds : List D} {vs : List V} {j : Nat} {d : D}, VRs G w H l O ds vs → ds[j]? = some d → ∃ v O', vs[j]? = some v ∧ (∀ a ∈ O', a ∈ O) ∧ VR G w H l O' d v
  | _, _, _, _, _, .nil, e => by simp at e
  | _, _, _, 0, _, .cons _ h _, e => by simp at e; subst e; exact ⟨_, _, rfl, fun a z => List.mem_append_left _ z, h⟩
  | _, _, _, j + 1, _, .cons _ _ hs, e => by
    obtain ⟨v, O', e1, hO, h⟩ := VRs.get (j := j) hs (by simpa using e)
    exact ⟨v, O', by simpa using e1, fun a z => List.mem_append_right _ (hO a z), h⟩
/-! ### as data -/
theorem toP_tup {ds : List D} {p : PyData} (h : toP (.tup ds) = some p) : ∃ ps, toPs ds = some ps ∧ p = .tuple ps := by
  rw [toP] at h
  cases e : toPs ds with
  | none => rw [e] at h; cases h
  | some ps => rw [e] at h; exact ⟨ps, rfl, (Option.some.inj h).symm⟩
theorem toP_lst {ds : List D} {p : PyData} (h : toP (.lst ds) = some p) : ∃ ps, toPs ds = some ps ∧ p = .list ps := by
  rw [toP] at h
  cases e : toPs ds with
  | none => rw [e] at h; cases h
  | some ps => rw [e] at h; exact ⟨ps, rfl, (Option.some.inj h).symm⟩
theorem toPs_cons {d : D} {ds : List D} {ps : List PyData} (h : toPs (d :: ds) = some ps) : ∃ q qs, toP d = some q ∧ toPs ds = some qs ∧ ps = q :: qs := by
  rw [toPs] at h
  split at h
  · rename_i x xs e1 e2
    exact ⟨x, xs, e1, e2, (Option.some.inj h).symm⟩
  · cases h
mutual
theorem FR.dp : ∀ {d : D} {v : V} {p : PyData}, FR G w H d v → toP d = some p → Dp G.K H v p
  | _, _, _, .non, e => by rw [toP] at e; cases e; exact .non
  | _, _, _, .bl b, e => by rw [toP] at e; cases e; exact .bl b
  | _, _, _, .int i, e => by rw [toP] at e; cases e; exact .int i
  | _, _, _, .str x, e => by rw [toP] at e; cases e; exact .str x
  | _, _, _, .tup h hs, e => by
    obtain ⟨ps, e1, rfl⟩ := toP_tup e
    exact .tup h.sqt (FRs.dp hs e1)
  | _, _, _, .lst h hs, e => by
    obtain ⟨ps, e1, rfl⟩ := toP_lst e
    exact .lst (.of h.2) (FRs.dp hs e1)
  | _, _, _, .ins .., e => by rw [toP] at e; cases e; all_goals simp
  | _, _, _, .ref .., e => by rw [toP] at e; cases e; all_goals simp
  | _, _, _, .dic .., e => by rw [toP] at e; cases e; all_goals simp
  | _, _, _, .dit .., e => by rw [toP] at e; cases e; all_goals simp
  | _, _, _, .tx .., e => by rw [toP] at e; cases e; all_goals simp
theorem FRs.dp : ∀ {ds : List D} {vs : List V} {ps : List PyData}, FRs G w H ds vs → toPs ds = some ps → DpAll G.K H vs ps
  | _, _, _, .nil, e => by rw [toPs] at e; cases e; exact .nil
  | _, _, _, .cons n h hs, e => by
    obtain ⟨q, qs, e1, e2, rfl⟩ := toPs_cons e
    exact .cons (FR.dp h e1) (FRs.dp hs e2)
end
mutual
theorem VR.dp : ∀ {l : Nat} {O : List Addr} {d : D} {v : V} {p : PyData}, VR G w H l O d v → toP d = some p → Dp G.K H v p
  | _, _, _, _, _, .zero h, e => h.dp e
  | _, _, _, _, _, .nc _ h, e => h.dp e
  | _, _, _, _, _, .lst h _ _ hs, e => by
    obtain ⟨ps, e1, rfl⟩ := toP_lst e
    exact .lst (.of h) (VRs.dp hs e1)
  | _, _, _, _, _, .dic .., e => by rw [toP] at e; cases e; all_goals simp
  | _, _, _, _, _, .dit .., e => by rw [toP] at e; cases e; all_goals simp
theorem VRs.dp : ∀ {l : Nat} {O : List Addr} {ds : List D} {vs : List V} {ps : List PyData}, VRs G w H l O ds vs → toPs ds = some ps → DpAll G.K H vs ps
  | _, _, _, _, _, .nil, e => by rw [toPs] at e; cases e; exact .nil
  | _, _, _, _, _, .cons n h hs, e => by
    obtain ⟨q, qs, e1, e2, rfl⟩ := toPs_cons e
    exact .cons (VR.dp h e1) (VRs.dp hs e2)
end
theorem KR.dp {x : KD} {v : V} {p : PyData} (h : KR G Os w H H0 x v) (e : toP x.2 = some p) : Dp G.K H v p := by
  obtain ⟨k, d⟩ := x
  cases k with
  | fz => exact FR.dp h e
  | an => obtain ⟨O, hv, _⟩ := h; exact (hv 0).dp e
  | fr l => obtain ⟨O, hv, _⟩ := h; exact hv.dp e
  | bo l => obtain ⟨O, hv, _⟩ := h; exact hv.dp e
  | lk =>
    obtain ⟨O, hv, _⟩ := h
    cases d with
    | lst ds =>
      obtain ⟨a, vs, rfl, ha, hs, _⟩ := hv.lk_lst
      obtain ⟨ps, e1, rfl⟩ := toP_lst e
      exact .lst (.of ha) (hs.dp e1)
    | dic kvs => rw [toP] at e; cases e; all_goals simp
    | dit kvs => rw [toP] at e; cases e; all_goals simp
    | _ => exact FR.dp (hv.ncf rfl).unf' e
end

/-! ### operators by values -/
section
variable {X : Cx}
def rAddA (K : PySem.W.Frag) : R2 := fun x y H Q => rI0 (fun i j => .int (i + j)) x y H Q ∨ (∃ i j, x = .str i ∧ y = .str j ∧ i.length + j.length ≤ sizeLine ∧ Q (.str (i ++ j)) H) ∨ rCat x y H Q ∨ rCatA K x y H Q
theorem opr_add : OpR X (binaryOp .Add) (rAddA X.K) := op_add.or (op_add_str.or (op_cat.or op_catA))
def rMulA : R2 := fun x y H Q => rI CMul (fun i j => .int (i * j)) x y H Q ∨ rRep x y H Q ∨ RT.rRepS x y H Q
theorem opr_mul : OpR X (binaryOp .Mult) rMulA := op_mul.or (op_rep.or RT.op_repS)
def rBin (K : PySem.W.Frag) : Operator → R2
  | .Add => rAddA K
  | .Sub => rI0 fun i j => .int (i - j)
  | .Mult => rMulA
  | .FloorDiv => rI CDiv fun i j => .int (i / j)
  | .Mod => rI (fun _ j => 0 < j) fun i j => .int (i % j)
  | .Pow => rI CPow fun i j => .int (i ^ j.toNat)
  | _ => fun _ _ _ _ => False
theorem opr_bin : ∀ o : Operator, OpR X (binaryOp o) (rBin X.K o)
  | .Add => opr_add
  | .Sub => op_sub
  | .Mult => opr_mul
  | .FloorDiv => op_fdiv
  | .Mod => op_mod
  | .Pow => op_pow
  | .MatMult | .Div | .LShift | .RShift | .BitOr | .BitXor | .BitAnd => fun _ _ _ _ _ _ _ _ _ _ _ _ h => h.elim
theorem sz_ok {n : Nat} (h : szOk n = true) : n ≤ sizeLine := by
  rw [sizeLine_eq]; exact of_decide_eq_true h
end
section
variable {G : Gx} {w w' w1 : Wd} {H H' H0 H1 : Hp} {Os : List (List Addr)}
/-- a new list of items that may be kept -/
theorem fin_lst {wc : Wd} {Hc : Hp} {k : Kd} {ds : List D} {vs : List V} {O : List Addr} {st : Sto} {W : XK} {Q : VK} {p : Addr} (hk : k = .an ∧ (∀ d ∈ ds, isC d = false) ∨ k = .fr 1) (h : Out G (KR G Os) w H ((pure (k, .lst ds) : M KD) st) W Q) (pc : Po w H wc Hc) (s : St G wc Hc st)
    (ho : Own wc Hc H O) (hs : FRs G (wc.frz O) Hc ds vs) (hp : Hc p = none) : Q (.ref p) (upd Hc p (.lst vs)) := by
  have s1 := s.frz ho
  have pc1 := pc.frz fun a z => (ho a z).1
  have f := s1.wf.free hp
  have s2 := s1.new (o := .lst vs) hp
  have hs' : FRs G (wc.frz O) (upd Hc p (.lst vs)) ds vs := hs.po s1.wf (newPo hp)
  refine h (.ref p) (wc.frz O) _ (pc1.new hp) s2 ?_
  have zs : ∀ {ds : List D} {vs : List V}, FRs G (wc.frz O) (upd Hc p (.lst vs)) ds vs → True := fun _ => trivial
  rcases hk with ⟨rfl, hc⟩ | rfl
  · have all : ∀ (l : Nat) {ds : List D} {us : List V}, (∀ d ∈ ds, isC d = false) → FRs G (wc.frz O) (upd Hc p (.lst vs)) ds us → VRs G (wc.frz O) (upd Hc p (.lst vs)) l [] ds us := by
      intro l ds
      induction ds with
      | nil => intro us _ q; cases q; exact .nil
      | cons d ds ih =>
        intro us hc q
        cases q with
        | cons n q qs => exact .cons (O := []) (O' := []) n (.nc (hc d (by simp)) q) (ih (fun e he => hc e (by simp [he])) qs)
    exact ⟨[p], fun l => .lst upd_same f.1 f.2.1 (all l hc hs'), by simp, fun a z => by
      obtain rfl : a = p := by simpa using z
      exact ⟨pc.th a hp, f.2.2⟩⟩
  · have all : ∀ {ds : List D} {us : List V}, FRs G (wc.frz O) (upd Hc p (.lst vs)) ds us → VRs G (wc.frz O) (upd Hc p (.lst vs)) 0 [] ds us := by
      intro ds
      induction ds with
      | nil => intro us q; cases q; exact .nil
      | cons d ds ih =>
        intro us q
        cases q with
        | cons n q qs => exact .cons (O := []) (O' := []) n (.zero q) (ih qs)
    exact ⟨[p], .lst upd_same f.1 f.2.1 (all hs'), by simp, fun a z => by
      obtain rfl : a = p := by simpa using z
      exact ⟨pc.th a hp, f.2.2⟩⟩
/-- a new tuple -/
theorem fin_tup {wc : Wd} {Hc : Hp} {ds : List D} {vs : List V} {O : List Addr} {st : Sto} {W : XK} {Q : VK} {p : Addr} (h : Out G (KR G Os) w H ((pure (.fz, .tup ds) : M KD) st) W Q) (pc : Po w H wc Hc) (s : St G wc Hc st)
    (ho : Own wc Hc H O) (hs : FRs G (wc.frz O) Hc ds vs) (hp : Hc p = none) : Q (.ref p) (upd Hc p (.tup vs)) := by
  have s1 := s.frz ho
  have pc1 := pc.frz fun a z => (ho a z).1
  have s2 := s1.newF (o := .tup vs) hp fun ps e => by cases e
  have pn : Po (wc.frz O) Hc ((wc.frz O).frz [p]) (upd Hc p (.tup vs)) := (Po.refl _ _).newF hp
  exact h (.ref p) _ _ (pc1.newF hp) s2 (FR.tup (.inl ⟨.inr (by simp), .inl upd_same⟩) (hs.po s1.wf pn))
theorem FRs.app : ∀ {ds es : List D} {vs us : List V}, FRs G w H ds vs → FRs G w H es us → FRs G w H (ds ++ es) (vs ++ us)
  | _, _, _, _, .nil, h => h
  | _, _, _, _, .cons n a b, h => .cons n a (FRs.app b h)
theorem FRs.rep {ds : List D} {vs : List V} (h : FRs G w H ds vs) : ∀ n : Nat, FRs G w H (List.replicate n ds).flatten (List.replicate n vs).flatten
  | 0 => .nil
  | n + 1 => by
    rw [List.replicate_succ, List.replicate_succ, List.flatten_cons, List.flatten_cons]
    exact h.app (FRs.rep h n)
theorem FRs.take : ∀ {ds : List D} {vs : List V} (n : Nat), FRs G w H ds vs → FRs G w H (ds.take n) (vs.take n)
  | _, _, 0, _ => by simp only [List.take_zero]; exact .nil
  | _, _, n + 1, .nil => by simp only [List.take_nil]; exact .nil
  | _, _, n + 1, .cons r a b => .cons r a (FRs.take n b)
theorem FRs.drop : ∀ {ds : List D} {vs : List V} (n : Nat), FRs G w H ds vs → FRs G w H (ds.drop n) (vs.drop n)
  | _, _, 0, h => h
  | _, _, n + 1, .nil => by simp only [List.drop_nil]; exact .nil
  | _, _, n + 1, .cons r a b => FRs.drop n b
theorem FRs.cut {ds : List D} {vs : List V} (h : FRs G w H ds vs) (lo hi : Option Int) : FRs G w H (cutL ds lo hi) (cutV vs lo hi) := by
  unfold cutL cutV
  rw [h.length]
  exact (h.drop _).take _
theorem bin_fin {o : Operator} {wc : Wd} {Hc : Hp} {x y : KD} {v u : V} {st : Sto} {W : XK} {Q : VK} (h : Out G (KR G Os) w H (binD o x y st) W Q) (pc : Po w H wc Hc) (s : St G wc Hc st) (kx : KR G Os wc Hc H x v) (ky : KR G Os wc Hc H y u) : rBin G.K o v u Hc Q := by
  obtain ⟨kx', dx⟩ := x
  obtain ⟨ky', dy⟩ := y
  unfold binD at h
  dsimp only at h
  split at h
  · rename_i i j
    obtain rfl := kx.int
    obtain rfl := ky.int
    exact .inl ⟨i, j, rfl, rfl, h.fin pc s (FR.int _)⟩
  · rename_i i j
    obtain rfl := kx.int
    obtain rfl := ky.int
    exact ⟨i, j, rfl, rfl, h.fin pc s (FR.int _)⟩
  · rename_i i j
    obtain rfl := kx.int
    obtain rfl := ky.int
    obtain ⟨c, h⟩ := h.ifno
    exact .inl ⟨i, j, rfl, rfl, (by unfold mulOk at c; exact of_decide_eq_true c : (-(2 ^ 64) < i ∧ i < 2 ^ 64) ∨ (-(2 ^ 64) < j ∧ j < 2 ^ 64)), h.fin pc s (FR.int _)⟩
  · rename_i i j
    obtain rfl := kx.int
    obtain rfl := ky.int
    obtain ⟨c, h⟩ := h.ifno
    exact ⟨i, j, rfl, rfl, (by unfold divOk at c; exact of_decide_eq_true c : 0 < j ∧ j < 1073741824), h.fin pc s (FR.int _)⟩
  · rename_i i j
    obtain rfl := kx.int
    obtain rfl := ky.int
    by_cases c : 0 < j
    · rw [if_pos c] at h
      exact ⟨i, j, rfl, rfl, c, h.fin pc s (FR.int _)⟩
    · rw [if_neg c] at h
      exact h.elim
  · rename_i i j
    obtain rfl := kx.int
    obtain rfl := ky.int
    obtain ⟨c, h⟩ := h.ifno
    exact ⟨i, j, rfl, rfl, (by unfold powOk at c; exact of_decide_eq_true c : 0 ≤ j ∧ j ≤ 1000000 ∧ i.natAbs < 2 ^ 64), h.fin pc s (FR.int _)⟩
  · rename_i a b
    obtain rfl := kx.str
    obtain rfl := ky.str
    obtain ⟨c, h⟩ := h.ifno
    exact .inr (.inl ⟨a, b, rfl, rfl, sz_ok c, h.fin pc s (FR.str _)⟩)
  · rename_i a k
    obtain rfl := kx.str
    obtain rfl := ky.int
    obtain ⟨c, h⟩ := h.ifno
    simp only [Bool.and_eq_true, decide_eq_true_eq] at c
    have c2 := sz_ok c.2
    rw [sizeLine_eq] at c2
    exact .inr (.inr ⟨a, k, rfl, rfl, ⟨c.1.2, c.1.1⟩, c2, h.fin pc s (FR.str _)⟩)
  · rename_i as bs
    obtain ⟨c, h⟩ := h.ifno
    simp only [Bool.and_eq_true] at c
    obtain ⟨O1, a, vs, o1, rfl, ha, f1⟩ := kx.items c.1.1
    obtain ⟨O2, b, us, o2, rfl, hb, f2⟩ := ky.items c.1.2
    have g1 := f1 (O1 ++ O2) fun a z => List.mem_append_left _ z
    have g2 := f2 (O1 ++ O2) fun a z => List.mem_append_right _ z
    exact .inr (.inr (.inl ⟨a, b, vs, us, rfl, rfl, ha, hb, by rw [← g1.length, ← g2.length]; exact sz_ok c.2, fun p hp => fin_lst (.inr rfl) h pc s (o1.app o2) (g1.app g2) hp⟩))
  · rename_i as bs
    obtain ⟨c, h⟩ := h.ifno
    obtain ⟨a, vs, rfl, ha, f1⟩ := kx.tup
    obtain ⟨b, us, rfl, hb, f2⟩ := ky.tup
    refine .inr (.inr (.inr ⟨a, b, vs, us, rfl, rfl, ha.sqt, hb.sqt, by rw [← f1.length, ← f2.length]; exact sz_ok c, fun e => ?_, fun e e' => ?_, fun e e' p hp => ?_⟩))
    · subst e
      cases f1
      exact h.fin pc s (show FR G wc Hc _ _ from by simpa using FR.tup hb f2)
    · subst e'
      cases f2
      exact h.fin pc s (show FR G wc Hc _ _ from by simpa using FR.tup ha f1)
    · exact fin_tup h pc s Own.nil (f1.app f2).frz hp
  · rename_i as k
    obtain ⟨c, h⟩ := h.ifno
    simp only [Bool.and_eq_true, decide_eq_true_eq] at c
    obtain ⟨O1, a, vs, o1, rfl, ha, f1⟩ := kx.items c.1.1
    obtain rfl := ky.int
    have g1 := f1 O1 fun a z => z
    have c1 := c.1.2.1
    have c2 := c.1.2.2
    exact .inr (.inl ⟨a, k, vs, rfl, rfl, ha, by omega, by omega, by rw [← g1.length]; exact sz_ok c.2, fun p hp => fin_lst (.inr rfl) h pc s o1 (g1.rep _) hp⟩)
  · exact h.elim
end

/-! ### rules -/
section
variable {X : Cx} {G : Gx} {P : Pr} {pos : Pos}
theorem imE {e : Expr} {t t' : TE} (h : PE X e t) (i : ∀ σ H Q, t' σ H Q → t σ H Q) : PE X e t' := ⟨fun pins s σ H Q I q => h.run pins s σ H Q I (i σ H Q q)⟩
theorem imT {e : Expr} {t t' : TT} (h : PT X e t) (i : ∀ σ H Q, t' σ H Q → t σ H Q) : PT X e t' := ⟨fun pins s σ H Q I q => h.run pins s σ H Q I (i σ H Q q)⟩
theorem imA {e : List Expr} {t t' : TA} (h : PA X e t) (i : ∀ σ H Q, t' σ H Q → t σ H Q) : PA X e t' := ⟨fun pos pins s σ H Q I q => h.run pos pins s σ H Q I (i σ H Q q)⟩
theorem de_int {i : Int} {j : Nat} : DE X G P (.Constant (.int i) j pos) (.lit (.int i)) := fun W _ => imE pe_int fun σ H Q ⟨w, ρ, Os, st, g, o⟩ => o.fin (Po.refl _ _) g.s (FR.int i)
theorem de_str {i : Str} {j : Nat} : DE X G P (.Constant (.str i) j pos) (.lit (.str i)) := fun W _ => imE pe_str fun σ H Q ⟨w, ρ, Os, st, g, o⟩ => o.fin (Po.refl _ _) g.s (FR.str i)
theorem de_bl {i : Bool} {j : Nat} : DE X G P (.Constant (.bool i) j pos) (.lit (.bl i)) := fun W _ => imE pe_bl fun σ H Q ⟨w, ρ, Os, st, g, o⟩ => o.fin (Po.refl _ _) g.s (FR.bl i)
theorem de_bin {o : Operator} {pa pb : Expr} {a b : E} (hK : X.K = G.K) (ha : DE X G P pa a) (hb : DE X G P pb b) : DE X G P (.BinOp pa o pb pos) (.bin o a b) := fun W tk =>
  imE (pe_op (opr_bin o) (ha W tk) (hb W tk)) fun σ H Q ⟨w, ρ, Os, st, g, ot⟩ => by
    refine tE_bind g (Po.refl _ _) (f := fun x => evE P b ρ >>= fun y => binD o x y) ot fun x st1 v w1 H1 g1 p1 k1 o1 => ?_
    refine tE_bind g1 p1 o1 fun y st2 u w2 H2 g2 p2 k2 o2 => ?_
    rw [hK]
    exact bin_fin o2 (p1.trans p2) g2.s (k1.po g1.s.wf p2 g1.ap) (k2.base p1)
end
end PV

/-! part PV5 -/
/-! PV5: more rules for expressions. -/
namespace PV
open PySem L2 LamX NdefX

theorem M.assoc {α β γ : Type} (m : M α) (f : α → M β) (g : β → M γ) : ((m >>= f) >>= g) = m >>= fun a => f a >>= g := by
  funext s
  show M.bind (M.bind m f) g s = M.bind m (fun a => M.bind (f a) g) s
  unfold M.bind
  cases m s <;> rfl
theorem evB_cmp {P : Pr} {o : CmpOp} {a b : E} {ρ : Env} : evB P (.cmp o a b) ρ = evE P a ρ >>= fun x => evE P b ρ >>= fun y => cmpD o x.2 y.2 := by
  unfold evB
  rw [evE]
  simp only [M.assoc]
  congr; funext x; congr; funext y
  funext s
  show M.bind (cmpD o x.2 y.2) _ s = cmpD o x.2 y.2 s
  unfold M.bind
  cases cmpD o x.2 y.2 s <;> rfl
section
variable {G : Gx} {w w' w1 : Wd} {H H' H0 H1 : Hp} {Os : List (List Addr)}
theorem SL.get : ∀ {σ : L2.St} {ρ : Env} {Os : List (List Addr)} {i l : Nat} {d : D}, SL G w H σ ρ Os → ρ[i]? = some (some (l, d)) → ∃ v O, σ[i]? = some (some v) ∧ Os[i]? = some O ∧ VR G w H l O d v
  | _, _, _, _, _, _, .nil, h => by simp at h
  | _, _, _, 0, _, _, .no _, h => by simp at h
  | _, _, _, i + 1, _, _, .no s, h => by
    obtain ⟨v, O, e1, e2, r⟩ := SL.get (i := i) s (by simpa using h)
    exact ⟨v, O, by simpa using e1, by simpa using e2, r⟩
  | _, _, _, 0, _, _, .so hv _, h => by
    simp only [List.getElem?_cons_zero, Option.some.injEq, Prod.mk.injEq] at h
    obtain ⟨rfl, rfl⟩ := h
    exact ⟨_, _, rfl, rfl, hv⟩
  | _, _, _, i + 1, _, _, .so _ s, h => by
    obtain ⟨v, O, e1, e2, r⟩ := SL.get (i := i) s (by simpa using h)
    exact ⟨v, O, by simpa using e1, by simpa using e2, r⟩
theorem VR.read {l : Nat} {O : List Addr} {d : D} {v : V} (h : VR G w H l O d v) (hO : ∀ a ∈ O, a ∈ Os.flatten) : KR G Os w H H0 (readK l d) v := by
  unfold readK
  by_cases c : l = 0 ∨ isC d = false
  · rw [if_pos c]
    show FR G w H d v
    rcases c with c | c
    · subst c; exact h.fr0
    · exact h.ncf c
  · rw [if_neg c]
    exact ⟨O, h, hO⟩
theorem mem_flat {O : List Addr} {i : Nat} (e : Os[i]? = some O) : ∀ a ∈ O, a ∈ Os.flatten := fun a ha => List.mem_flatten.mpr ⟨O, List.mem_of_getElem? e, ha⟩
end

section
variable {X : Cx} {G : Gx} {P : Pr} {pos : Pos}
theorem de_var {i : Nat} {x : Str} (hN : X.N[i]? = some x) (hv : Vis X.env.scope x) (hd : (x == ("__debug__" : Str)) = false) (hcd : (x == ("__classdict__" : Str)) = false) : DE X G P (.Name x pos) (.var i) := fun W _ =>
  imE (pe_var hN hv hd hcd) fun σ H Q ⟨w, ρ, Os, st, g, o⟩ => by
    rw [evE] at o
    cases e : ρ[i]? with
    | none => rw [e] at o; exact o.elim
    | some z =>
      rw [e] at o
      cases z with
      | none => exact o.elim
      | some ld =>
        obtain ⟨l, d⟩ := ld
        obtain ⟨v, O, e1, e2, r⟩ := g.sl.get e
        exact ⟨v, e1, Out.fin o (Po.refl _ _) g.s (r.read (mem_flat e2))⟩
/-! comparisons -/
def rCmp (K : PySem.W.Frag) : CmpOp → R2
  | .Lt => rI0 fun i j => .bl (decide (i < j))
  | .LtE => rI0 fun i j => .bl (decide (i ≤ j))
  | .Gt => rI0 fun i j => .bl (decide (j < i))
  | .GtE => rI0 fun i j => .bl (decide (j ≤ i))
  | .Eq => fun x y H Q => rEqD K x y H Q ∨ RT.rEqDic x y H Q ∨ RT.rEqDicN x y H Q
  | .NotEq => fun x y H Q => rNeD K x y H Q ∨ RT.rNeDic x y H Q ∨ RT.rNeDicN x y H Q
  | .Is => fun x y H Q => y = .non ∧ Q (.bl (decide (x = .non))) H
  | .IsNot => fun x y H Q => y = .non ∧ Q (.bl (!decide (x = .non))) H
  | .In => fun x y H Q => rInD K x y H Q ∨ RT.rInT K x y H Q ∨ RT.rDIn x y H Q ∨ ∃ (c : Nat) (z : Str), x = .str ⟨#[c]⟩ ∧ y = .str z ∧ Q (.bl (decide (c ∈ z.cps.toList))) H
  | .NotIn => fun x y H Q => rNotInD K x y H Q ∨ RT.rNotInT K x y H Q ∨ RT.rDNotIn x y H Q ∨ ∃ (c : Nat) (z : Str), x = .str ⟨#[c]⟩ ∧ y = .str z ∧ Q (.bl (!decide (c ∈ z.cps.toList))) H
theorem opr_cmp (hu : X.A.units + 80 < cLine) : ∀ o : CmpOp, OpR X (compareOp o) (rCmp X.K o)
  | .Lt => op_lt
  | .LtE => op_le
  | .Gt => op_gt
  | .GtE => op_ge
  | .Eq => (op_eqD (by omega)).or ((RT.op_eqDic hu).or (RT.op_eqDicN hu))
  | .NotEq => (op_neD (by omega)).or ((RT.op_neDic hu).or (RT.op_neDicN hu))
  | .Is => op_isN
  | .IsNot => op_notN
  | .In => (op_inD (by omega)).or ((RT.op_inT hu).or ((RT.op_dinO hu).or op_in_sign))
  | .NotIn => (op_notInD (by omega)).or ((RT.op_notInT hu).or ((RT.op_dnotinO hu).or op_notIn_sign))
theorem eqD_some {a b : D} {c : Bool} (h : eqD a b = some c) : ∃ p q, toP a = some p ∧ toP b = some q ∧ SeqAt.shaped p = true ∧ SeqAt.shaped q = true ∧ c = PyData.eqv p q := by
  unfold eqD at h
  split at h
  · rename_i p q e1 e2
    split at h
    · rename_i c2
      simp only [Bool.and_eq_true] at c2
      exact ⟨p, q, e1, e2, c2.1, c2.2, (Option.some.inj h).symm⟩
    · cases h
  · cases h
theorem KR.isNon {Os : List (List Addr)} {w : Wd} {H H0 : Hp} {x : KD} {v : V} (h : KR G Os w H H0 x v) : decide (v = .non) = isNonD x.2 := by
  obtain ⟨k, d⟩ := x
  have of : FR G w H d v → decide (v = .non) = isNonD d := fun q => by
    cases q <;> simp [isNonD]
  by_cases c : isC d = false
  · exact of (h.nc c)
  · cases d with
    | lst ds => obtain ⟨a, vs, rfl, _⟩ := h.head; simp [isNonD]
    | dic kvs => obtain ⟨a, vs, rfl, _⟩ := h.dicH; simp [isNonD]
    | dit kvs => obtain ⟨a, vs, rfl, _⟩ := h.ditH; simp [isNonD]
    | _ => exact absurd rfl c
theorem getK_some {κ : Type} [DecidableEq κ] {k : κ} : ∀ {kvs : List (κ × D)} {d : D}, getK k kvs = some d → ∃ j : Nat, (kvs.map (·.2))[j]? = some d ∧ ∀ vs : List V, vs.length = kvs.length → valV (zK kvs vs) k = vs[j]?
  | [], d, h => by simp [getK] at h
  | p :: kvs, d, h => by
    by_cases c : p.1 = k
    · have e : d = p.2 := by
        unfold getK at h
        rw [List.find?_cons_of_pos (by simpa using c)] at h
        simpa using h.symm
      subst e
      refine ⟨0, by simp, fun vs hl => ?_⟩
      cases vs with
      | nil => simp at hl
      | cons v vs => exact valV_pos (p := (p.1, v)) c
    · have e : getK k kvs = some d := by
        unfold getK at h ⊢
        rwa [List.find?_cons_of_neg (by simpa using c)] at h
      obtain ⟨j, h1, h2⟩ := getK_some e
      refine ⟨j + 1, by simpa using h1, fun vs hl => ?_⟩
      cases vs with
      | nil => simp at hl
      | cons v vs =>
        have := valV_neg (p := (p.1, v)) (r := zK kvs vs) c
        rw [show zK (p :: kvs) (v :: vs) = (p.1, v) :: zK kvs vs from rfl, this, h2 vs (by simpa using hl)]
        simp
theorem getK_none {κ : Type} [DecidableEq κ] {k : κ} : ∀ {kvs : List (κ × D)}, getK k kvs = none → ∀ vs : List V, valV (zK kvs vs) k = none
  | [], h, vs => by simp [zK, valV]
  | p :: kvs, h, vs => by
    by_cases c : p.1 = k
    · unfold getK at h
      rw [List.find?_cons_of_pos (by simpa using c)] at h
      simp at h
    · have e : getK k kvs = none := by
        unfold getK at h ⊢
        rwa [List.find?_cons_of_neg (by simpa using c)] at h
      cases vs with
      | nil => simp [zK, valV]
      | cons v vs =>
        have := valV_neg (p := (p.1, v)) (r := zK kvs vs) c
        rw [show zK (p :: kvs) (v :: vs) = (p.1, v) :: zK kvs vs from rfl, this, getK_none e vs]
theorem getK_isSome {κ : Type} [DecidableEq κ] {k : κ} {kvs : List (κ × D)} {vs : List V} (hl : vs.length = kvs.length) : (valV (zK kvs vs) k).isSome = (getK k kvs).isSome := by
  cases e : getK k kvs with
  | none => rw [getK_none e]; rfl
  | some d =>
    obtain ⟨j, h1, h2⟩ := getK_some e
    have hj : j < (kvs.map (·.2)).length := (List.getElem?_eq_some_iff.mp h1).1
    rw [h2 vs hl]
    rw [List.length_map] at hj
    rw [List.getElem?_eq_getElem (by omega)]
    rfl
theorem KR.keyV {Os : List (List Addr)} {w : Wd} {H H0 : Hp} {x : KD} {v : V} {k : Ky} (h : KR G Os w H H0 x v) (e : keyO x.2 = some k) : v = kV k := by
  obtain ⟨kx, d⟩ := x
  cases d <;> simp [keyO] at e
  · subst e; exact h.int
  · subst e; exact h.str
theorem KR.dicHas {Os : List (List Addr)} {w : Wd} {H H0 : Hp} {kx ky : Kd} {kvs : List (Ky × D)} {d : D} {v u : V} {c : Option D} (h : KR G Os w H H0 (kx, .dic kvs) v) (h' : KR G Os w H H0 (ky, d) u) (e : dicGet kvs d = some c) : ∃ a o, v = .ref a ∧ DGet H a u o ∧ o.isSome = c.isSome := by
  obtain ⟨a, vs, rfl, hr, hl⟩ := h.dicH
  unfold dicGet at e
  cases e1 : keyO d with
  | none => rw [e1] at e; cases e
  | some k =>
    rw [e1] at e
    cases e
    exact ⟨a, valV (zK kvs vs) k, rfl, .inl ⟨_, k, hr, h'.keyV e1, rfl⟩, getK_isSome hl.symm⟩
theorem flat_v {w : Wd} {H : Hp} {l l' : Nat} {O O' : List Addr} {d : D} {v v' : V} (h : VR G w H l O d v) (h' : VR G w H l' O' d v') (f : flatD d = true) : v = v' ∧ flatB v = true := by
  cases d <;> simp [flatD] at f
  all_goals
    have q := h.ncf rfl
    have q' := h'.ncf rfl
    cases q
    cases q'
    exact ⟨rfl, rfl⟩
theorem inSeq_some {a : D} {ds : List D} {c : Bool} (h : inSeq a ds = some c) : ∃ p ps, toP a = some p ∧ toPs ds = some ps ∧ SeqAt.shaped p = true ∧ SeqAt.shaped (.list ps) = true ∧ c = ps.any fun z => PyData.eqv z p := by
  unfold inSeq at h
  split at h
  · rename_i p ps e1 e2
    split at h
    · rename_i c2
      simp only [Bool.and_eq_true] at c2
      exact ⟨p, ps, e1, e2, c2.1, c2.2, (Option.some.inj h).symm⟩
    · cases h
  · cases h
theorem in_run {wc : Wd} {Hc H : Hp} {Os : List (List Addr)} {x y : KD} {v u : V} {c : Bool} (kx : KR G Os wc Hc H x v) (ky : KR G Os wc Hc H y u) (h : inD x.2 y.2 = some c) (neg : Bool) (Q : VK) (q : Q (.bl (if neg then !c else c)) Hc) : rCmp G.K (if neg then .NotIn else .In) v u Hc Q := by
  obtain ⟨kx', dx⟩ := x
  obtain ⟨ky', dy⟩ := y
  unfold inD at h
  dsimp only at h
  split at h
  · obtain ⟨p, ps, e1, e2, s1, s2, rfl⟩ := inSeq_some h
    have d2 := ky.dp (p := .list ps) (by show toP (.lst _) = _; rw [toP, e2]; rfl)
    cases neg
    · exact .inl ⟨p, ps, kx.dp e1, d2, s1, s2, q⟩
    · exact .inl ⟨p, ps, kx.dp e1, d2, s1, s2, q⟩
  · obtain ⟨p, ps, e1, e2, s1, s2, rfl⟩ := inSeq_some h
    have d2 := ky.dp (p := .tuple ps) (by show toP (.tup _) = _; rw [toP, e2]; rfl)
    cases neg
    · exact .inr (.inl ⟨p, ps, kx.dp e1, d2, s1, s2, q⟩)
    · exact .inr (.inl ⟨p, ps, kx.dp e1, d2, s1, s2, q⟩)
  · rename_i z
    split at h
    · rename_i x
      split at h
      · rename_i k e
        cases h
        obtain rfl := kx.str
        obtain rfl := ky.str
        have ex : x = ⟨#[k]⟩ := by
          obtain ⟨cps⟩ := x
          simp only at e
          congr
          exact Array.toList_inj.mp e
        subst ex
        cases neg
        · exact .inr (.inr (.inr ⟨k, z, rfl, rfl, q⟩))
        · exact .inr (.inr (.inr ⟨k, z, rfl, rfl, q⟩))
      · cases h
    · cases h
  · rename_i kvs
    cases e : dicGet kvs dx with
    | none => rw [e] at h; cases h
    | some o =>
      rw [e] at h
      cases h
      obtain ⟨a, o', rfl, g, ho⟩ := ky.dicHas kx e
      cases neg
      · exact .inr (.inr (.inl ⟨a, o', rfl, g, by rw [ho]; exact q⟩))
      · exact .inr (.inr (.inl ⟨a, o', rfl, g, by rw [ho]; exact q⟩))
  · cases h
theorem mem_zK {κ : Type} : ∀ {kvs : List (κ × D)} {vs : List V} {p : κ × V}, p ∈ zK kvs vs → ∃ (j : Nat) (q : κ × D), kvs[j]? = some q ∧ vs[j]? = some p.2 ∧ q.1 = p.1
  | [], vs, p, h => by simp [zK] at h
  | q :: kvs, [], p, h => by simp [zK] at h
  | q :: kvs, v :: vs, p, h => by
    rcases List.mem_cons.mp (show p ∈ (q.1, v) :: zK kvs vs from h) with rfl | h
    · exact ⟨0, q, rfl, rfl, rfl⟩
    · obtain ⟨j, q', h1, h2, h3⟩ := mem_zK h
      exact ⟨j + 1, q', by simpa using h1, by simpa using h2, h3⟩
theorem same_flat {d d' : D} (f : flatD d = true) (h : sameF (some d') d = true) : d = d' := by
  cases d <;> simp [flatD] at f <;> cases d' <;> simp [sameF] at h ⊢
  all_goals exact h.symm
theorem dic_run {wc : Wd} {Hc H : Hp} {Os : List (List Addr)} {k : Kd} {as : List (Ky × D)} {y : KD} {v u : V} {c : Bool} (kx : KR G Os wc Hc H (k, .dic as) v) (ky : KR G Os wc Hc H y u) (h : eqDic (.dic as) y.2 = some c) (neg : Bool) (Q : VK) (q : Q (.bl (if neg then !c else c)) Hc) : rCmp G.K (if neg then .NotEq else .Eq) v u Hc Q := by
  obtain ⟨ky', dy⟩ := y
  dsimp only at h
  unfold eqDic at h
  split at h
  · rename_i as' bs e
    cases e
    obtain ⟨a, vs, l, O, rfl, ha, hvs⟩ := kx.dicV
    obtain ⟨b, us, l', O', rfl, hb, hus⟩ := ky.dicV
    have lv := hvs.length
    have lu := hus.length
    rw [List.length_map] at lv lu
    have l1 : (zK as vs).length = as.length := by simp [zK]; omega
    have l2 : (zK bs us).length = bs.length := by simp [zK]; omega
    split at h
    · rename_i hl
      split at h
      · rename_i hs
        cases h
        have same : ∀ p ∈ zK as vs, valV (zK bs us) p.1 = some p.2 ∧ flatB p.2 = true := fun p hp => by
          obtain ⟨j, z, e1, e2, e3⟩ := mem_zK hp
          unfold sameDic at hs
          simp only [Bool.and_eq_true, List.all_eq_true] at hs
          obtain ⟨f1, f2⟩ := hs.2 z (List.mem_of_getElem? e1)
          have e4 : (as.map (·.2))[j]? = some z.2 := by simp [e1]
          obtain ⟨v1, O1, h1, _, r1⟩ := hvs.get e4
          rw [e2] at h1
          cases h1
          cases eg : getK z.1 bs with
          | none => rw [eg] at f2; simp [sameF] at f2
          | some d' =>
            rw [eg] at f2
            have ed := same_flat f1 f2
            subst ed
            obtain ⟨m, h2, h3⟩ := getK_some eg
            obtain ⟨u1, O2, h4, _, r2⟩ := hus.get h2
            obtain ⟨ev, fb⟩ := flat_v r1 r2 f1
            rw [← e3, h3 us lu.symm, h4, ev]
            exact ⟨rfl, by rw [← ev]; exact fb⟩
        cases neg
        · exact .inr (.inl ⟨a, b, _, _, rfl, rfl, ha, hb, by omega, same, q⟩)
        · exact .inr (.inl ⟨a, b, _, _, rfl, rfl, ha, hb, by omega, same, q⟩)
      · cases h
    · rename_i hl
      cases h
      cases neg
      · exact .inr (.inr ⟨a, b, _, _, rfl, rfl, ha, hb, by omega, q⟩)
      · exact .inr (.inr ⟨a, b, _, _, rfl, rfl, ha, hb, by omega, q⟩)
  · cases h
/-- a comparison of held values -/
theorem cmp_run {wc : Wd} {Hc H : Hp} {Os : List (List Addr)} {o : CmpOp} {x y : KD} {v u : V} (kx : KR G Os wc Hc H x v) (ky : KR G Os wc Hc H y u) :
    (∃ c, cmpD o x.2 y.2 = pure c ∧ ∀ Q : VK, Q (.bl c) Hc → rCmp G.K o v u Hc Q) ∨ cmpD o x.2 y.2 = no := by
  obtain ⟨kx', dx⟩ := x
  obtain ⟨ky', dy⟩ := y
  unfold cmpD
  dsimp only
  split
  · obtain rfl := kx.int
    obtain rfl := ky.int
    exact .inl ⟨_, rfl, fun Q q => ⟨_, _, rfl, rfl, q⟩⟩
  · obtain rfl := kx.int
    obtain rfl := ky.int
    exact .inl ⟨_, rfl, fun Q q => ⟨_, _, rfl, rfl, q⟩⟩
  · obtain rfl := kx.int
    obtain rfl := ky.int
    exact .inl ⟨_, rfl, fun Q q => ⟨_, _, rfl, rfl, q⟩⟩
  · obtain rfl := kx.int
    obtain rfl := ky.int
    exact .inl ⟨_, rfl, fun Q q => ⟨_, _, rfl, rfl, q⟩⟩
  · rename_i as
    cases q : eqDic (.dic as) dy with
    | none => exact .inr rfl
    | some c => exact .inl ⟨_, rfl, fun Q q' => dic_run kx ky q false Q q'⟩
  · rename_i as
    cases q : eqDic (.dic as) dy with
    | none => exact .inr rfl
    | some c => exact .inl ⟨_, rfl, fun Q q' => dic_run kx ky q true Q q'⟩
  · cases q : eqD dx dy with
    | none => exact .inr rfl
    | some c =>
      obtain ⟨p, r, e1, e2, s1, s2, rfl⟩ := eqD_some q
      exact .inl ⟨_, rfl, fun Q q => .inl ⟨p, r, kx.dp e1, ky.dp e2, s1, s2, q⟩⟩
  · cases q : eqD dx dy with
    | none => exact .inr rfl
    | some c =>
      obtain ⟨p, r, e1, e2, s1, s2, rfl⟩ := eqD_some q
      exact .inl ⟨_, rfl, fun Q q => .inl ⟨p, r, kx.dp e1, ky.dp e2, s1, s2, q⟩⟩
  · cases q : inD dx dy with
    | none => exact .inr rfl
    | some c => exact .inl ⟨_, rfl, fun Q q' => in_run kx ky q false Q q'⟩
  · cases q : inD dx dy with
    | none => exact .inr rfl
    | some c => exact .inl ⟨_, rfl, fun Q q' => in_run kx ky q true Q q'⟩
  · obtain rfl := ky.non
    exact .inl ⟨_, rfl, fun Q q => ⟨rfl, by rw [kx.isNon]; exact q⟩⟩
  · obtain rfl := ky.non
    exact .inl ⟨_, rfl, fun Q q => ⟨rfl, by rw [kx.isNon]; exact q⟩⟩
  · exact .inr rfl
/-- .. ahead of more -/
theorem cmp_out {γ δ : Type} {w wc : Wd} {H Hc : Hp} {Os : List (List Addr)} {o : CmpOp} {x y : KD} {v u : V} {st : Sto} {W : XK} {Rel2 : Wd → Hp → Hp → γ → δ → Prop} {f : Bool → M γ} {Q : δ → Hp → Prop} (kx : KR G Os wc Hc H x v) (ky : KR G Os wc Hc H y u)
    (h : Out G Rel2 w H ((cmpD o x.2 y.2 >>= f) st) W Q) : ∃ c, Out G Rel2 w H (f c st) W Q ∧ ∀ Q : VK, Q (.bl c) Hc → rCmp G.K o v u Hc Q := by
  rcases cmp_run (o := o) kx ky with ⟨c, e, q⟩ | e
  · rw [e] at h
    exact ⟨c, h, q⟩
  · rw [e] at h
    exact h.elim
theorem cmp_out1 {w wc : Wd} {H Hc : Hp} {Os : List (List Addr)} {o : CmpOp} {x y : KD} {v u : V} {st : Sto} {W : XK} {Q : Bool → Hp → Prop} (kx : KR G Os wc Hc H x v) (ky : KR G Os wc Hc H y u)
    (h : Out G BR w H (cmpD o x.2 y.2 st) W Q) : ∃ c, Out G BR w H ((pure c : M Bool) st) W Q ∧ ∀ Q : VK, Q (.bl c) Hc → rCmp G.K o v u Hc Q := by
  rcases cmp_run (o := o) kx ky with ⟨c, e, q⟩ | e
  · rw [e] at h
    exact ⟨c, h, q⟩
  · rw [e] at h
    exact h.elim
end
end PV

/-! part PV6 -/
/-! PV6: tests, displays, items, slices. -/
noncomputable section
namespace PV
open PySem L2 LamX NdefX

def DW (X : Cx) (G : Gx) (P : Pr) (e : Expr) (E : E) : Prop := ∀ W, TkM P.nm X W → PW X e (tT G P W E)
theorem evB_an {P : Pr} {a b : E} {ρ : Env} : evB P (.an a b) ρ = evB P a ρ >>= fun c => if c then evB P b ρ else pure false := by
  unfold evB
  rw [evE]
  simp only [M.assoc]
  congr; funext x; congr; funext c
  cases c <;> rfl
theorem evB_orr {P : Pr} {a b : E} {ρ : Env} : evB P (.orr a b) ρ = evB P a ρ >>= fun c => if c then pure true else evB P b ρ := by
  unfold evB
  rw [evE]
  simp only [M.assoc]
  congr; funext x; congr; funext c
  cases c <;> rfl
theorem evE_cmp {P : Pr} {o : CmpOp} {a b : E} {ρ : Env} : evE P (.cmp o a b) ρ = evB P (.cmp o a b) ρ >>= fun c => pure (.fz, .bl c) := by
  rw [evB_cmp, evE]; simp only [M.assoc]
def ev3 (P : Pr) (a : E) (o1 : CmpOp) (b : E) (o2 : CmpOp) (c : E) (ρ : Env) : M Bool :=
  evE P a ρ >>= fun x => evE P b ρ >>= fun y => cmpD o1 x.2 y.2 >>= fun t => if t then evE P c ρ >>= fun z => cmpD o2 y.2 z.2 else pure false
theorem evE_cmp3 {P : Pr} {a b c : E} {o1 o2 : CmpOp} {ρ : Env} : evE P (.cmp3 a o1 b o2 c) ρ = ev3 P a o1 b o2 c ρ >>= fun c => pure (.fz, .bl c) := by
  rw [evE]; unfold ev3; simp only [M.assoc]
  congr; funext x; congr; funext y; congr; funext t
  cases t
  · rfl
  · simp only [M.assoc, if_true]
theorem M.bind_pure {α : Type} (m : M α) : (m >>= fun a => pure a) = m := by
  funext s
  show M.bind m _ s = m s
  unfold M.bind
  cases m s <;> rfl
theorem evB_of {P : Pr} {e : E} {ρ : Env} {m : M Bool} (h : evE P e ρ = m >>= fun c => pure (.fz, .bl c)) : evB P e ρ = m := by
  unfold evB
  rw [h]
  simp only [M.assoc]
  exact M.bind_pure m
section
variable {X : Cx} {G : Gx} {P : Pr} {pos : Pos}
theorem mono_bl {w wc : Wd} {H Hc : Hp} {Os : List (List Addr)} {m : M Bool} {st : Sto} {W : XK} {Q : VK} (pc : Po w H wc Hc) (h : Out G (KR G Os) w H ((m >>= fun c => pure (.fz, .bl c) : M KD) st) W Q) : Out G BR wc Hc (m st) W (fun c H1 => Q (.bl c) H1) :=
  Out.bind pc h fun a st1 b w1 H1 p s (r : a = b) o => by subst r; exact o.fin (pc.trans p) s (FR.bl a)
/-- an expression whose value is a bool, as a test -/
theorem dt_val {p : Expr} {e : E} (h : DE X G P p e) (he : ∀ whole, isTrue p X.env whole = (do let v ← whole; standAt p.pos; holding [v] (truthy v)) := by intro _; rfl) : DT X G P p e := fun W tk =>
  imT (pt_val (h W tk) he) fun σ H Q ⟨w, ρ, Os, st, g, o⟩ => by
    refine tE_bind g (Po.refl _ _) (f := fun x => ofO (boolO x.2)) o fun x st1 v w1 H1 g1 p1 k1 o1 => ?_
    obtain ⟨k, d⟩ := x
    cases d with
    | bl b => exact ⟨b, k1.bl, Out.fin o1 p1 g1.s rfl⟩
    | _ => exact o1.elim
theorem dt_dw {p : Expr} {e : E} (h : DW X G P p e) : DT X G P p e := fun W tk => (h W tk).pt
theorem de_cmp {pa pb : Expr} {o : CmpOp} {a b : E} (hK : X.K = G.K) (hu : X.A.units + 80 < cLine) (ha : DE X G P pa a) (hb : DE X G P pb b) (hm : behindInMarks o pb = false) : DE X G P (.Compare pa [o] [pb] pos) (.cmp o a b) := fun W tk =>
  imE (pe_cmpR (opr_cmp hu o) (ha W tk) (hb W tk) hm) fun σ H Q ⟨w, ρ, Os, st, g, ot⟩ => by
    rw [evE_cmp] at ot
    have o := mono_bl (Po.refl _ _) ot
    rw [evB_cmp] at o
    refine tE_bind g (Po.refl _ _) o fun x st1 v w1 H1 g1 p1 k1 o1 => ?_
    refine tE_bind g1 p1 o1 fun y st2 u w2 H2 g2 p2 k2 o2 => ?_
    obtain ⟨c, o3, q⟩ := cmp_out1 (k1.po g1.s.wf p2 g1.ap) (k2.base p1) o2
    rw [hK]
    exact q _ (o3.fin (p1.trans p2) g2.s rfl)
theorem dt_cmp {pa pb : Expr} {o : CmpOp} {a b : E} (hK : X.K = G.K) (hu : X.A.units + 80 < cLine) (ha : DE X G P pa a) (hb : DE X G P pb b) (hm : behindInMarks o pb = false) : DT X G P (.Compare pa [o] [pb] pos) (.cmp o a b) := fun W tk =>
  imT (pt_cmpR (opr_cmp hu o) (ha W tk) (hb W tk) hm) fun σ H Q ⟨w, ρ, Os, st, g, ot⟩ => by
    rw [evB_cmp] at ot
    refine tE_bind g (Po.refl _ _) ot fun x st1 v w1 H1 g1 p1 k1 o1 => ?_
    refine tE_bind g1 p1 o1 fun y st2 u w2 H2 g2 p2 k2 o2 => ?_
    obtain ⟨c, o3, q⟩ := cmp_out1 (k1.po g1.s.wf p2 g1.ap) (k2.base p1) o2
    rw [hK]
    exact q _ ⟨c, rfl, o3.fin (p1.trans p2) g2.s rfl⟩
/-- a chain -/
theorem chain_core {a b c : E} {o1 o2 : CmpOp} {W : WX} {σ : L2.St} {w : Wd} {H : Hp} {ρ : Env} {Os : List (List Addr)} {st : Sto} {Q : Bool → Hp → Prop} (hK : X.K = G.K) (g : Gd G w H σ ρ Os st) (ot : Out G BR w H (ev3 P a o1 b o2 c ρ st) (WS W σ) Q) :
    tChain (rCmp X.K o1) (rCmp X.K o2) (tE G P W a) (tE G P W b) (tE G P W c) σ H (fun z H1 => ∃ t, z = .bl t ∧ Q t H1) := by
  unfold ev3 at ot
  refine tE_bind g (Po.refl _ _) ot fun x st1 v w1 H1 g1 p1 k1 o1 => ?_
  refine tE_bind g1 p1 o1 fun y st2 u w2 H2 g2 p2 k2 o2 => ?_
  obtain ⟨t, o3, q⟩ := cmp_out (k1.po g1.s.wf p2 g1.ap) (k2.base p1) o2
  rw [hK]
  refine q _ ⟨t, rfl, ?_⟩
  cases t with
  | false => exact ⟨false, rfl, o3.fin (p1.trans p2) g2.s rfl⟩
  | true =>
    show tE G P W c σ H2 _
    refine tE_bind g2 (p1.trans p2) o3 fun z st3 v3 w3 H3 g3 p3 k3 o4 => ?_
    obtain ⟨t, o5, q⟩ := cmp_out1 ((k2.base p1).po g2.s.wf p3 g2.ap) (k3.base (p1.trans p2)) o4
    exact q _ ⟨t, rfl, o5.fin ((p1.trans p2).trans p3) g3.s rfl⟩
theorem dt_cmp3 {pa pb pc : Expr} {o1 o2 : CmpOp} {a b c : E} (hK : X.K = G.K) (hu : X.A.units + 80 < cLine) (ha : DE X G P pa a) (hb : DE X G P pb b) (hc : DE X G P pc c) (hm : lastMarks [o1, o2] [pb, pc] = false) : DT X G P (.Compare pa [o1, o2] [pb, pc] pos) (.cmp3 a o1 b o2 c) := fun W tk =>
  imT (pt_chain (opr_cmp hu o1) (opr_cmp hu o2) (ha W tk) (hb W tk) (hc W tk) hm) fun σ H Q ⟨w, ρ, Os, st, g, ot⟩ => by
    rw [evB_of evE_cmp3] at ot
    exact chain_core (X := X) hK g ot
/-! and, or, not -/
theorem bo_fin {w wc : Wd} {H Hc : Hp} {c : Bool} {st : Sto} {W : XK} {Q : Bool → Hp → Prop} (h : Out G BR w H ((pure c : M Bool) st) W Q) (pc : Po w H wc Hc) (s : St G wc Hc st) : Q c Hc := h.fin pc s rfl
theorem dw_an1 {pa : Expr} {a : E} (ha : DT X G P pa a) : DW X G P (.BoolOp .And [pa] pos) a := fun W tk => pw_and1 (ha W tk)
theorem dw_orr1 {pa : Expr} {a : E} (ha : DT X G P pa a) : DW X G P (.BoolOp .Or [pa] pos) a := fun W tk => pw_or1 (ha W tk)
theorem imW {e : Expr} {t t' : TT} (h : PW X e t) (i : ∀ σ H Q, t' σ H Q → t σ H Q) : PW X e t' := ⟨fun wh pins s σ H Q I q => h.run wh pins s σ H Q I (i σ H Q q)⟩
theorem dw_an {pa pb : Expr} {rest : List Expr} {a b : E} (ha : DT X G P pa a) (hb : DW X G P (.BoolOp .And (pb :: rest) pos) b) : DW X G P (.BoolOp .And (pa :: pb :: rest) pos) (.an a b) := fun W tk =>
  imW (pw_and (ha W tk) (hb W tk)) fun σ H Q ⟨w, ρ, Os, st, g, ot⟩ => by
    rw [evB_an] at ot
    refine tT_bind g (Po.refl _ _) ot fun c st1 w1 H1 g1 p1 o1 => ?_
    cases c with
    | true => exact ⟨w1, ρ, Os, st1, g1, Out.later based_BR p1 o1⟩
    | false => exact bo_fin o1 p1 g1.s
theorem dw_orr {pa pb : Expr} {rest : List Expr} {a b : E} (ha : DT X G P pa a) (hb : DW X G P (.BoolOp .Or (pb :: rest) pos) b) : DW X G P (.BoolOp .Or (pa :: pb :: rest) pos) (.orr a b) := fun W tk =>
  imW (pw_or (ha W tk) (hb W tk)) fun σ H Q ⟨w, ρ, Os, st, g, ot⟩ => by
    rw [evB_orr] at ot
    refine tT_bind g (Po.refl _ _) ot fun c st1 w1 H1 g1 p1 o1 => ?_
    cases c with
    | true => exact bo_fin o1 p1 g1.s
    | false => exact ⟨w1, ρ, Os, st1, g1, Out.later based_BR p1 o1⟩
end
end PV

/-! part PV7 -/
/-! PV7: arguments, displays, items, slices. -/
namespace PV
open PySem L2 LamX NdefX

theorem evEs_cons {P : Pr} {e : E} {es : List E} {ρ : Env} : evEs P (e :: es) ρ = evE P e ρ >>= fun x => evEs P es ρ >>= fun xs => pure (x :: xs) := by rw [evEs]
theorem evEs_nil {P : Pr} {ρ : Env} : evEs P [] ρ = pure [] := by rw [evEs]
section
variable {G : Gx} {w w' w1 : Wd} {H H' H0 H1 : Hp} {Os : List (List Addr)}
theorem KRs.length : ∀ {xs : List KD} {vs : List V}, KRs G Os w H H0 xs vs → xs.length = vs.length
  | _, _, .nil => rfl
  | _, _, .cons _ h => by simp [KRs.length h]
theorem KRs.sees : ∀ {xs : List KD} {vs : List V}, KRs G Os w H H0 xs vs → keepsB xs = true → ∃ O, Own w H H0 O ∧ ∀ O', (∀ a ∈ O, a ∈ O') → FRs G (w.frz O') H (xs.map (·.2)) vs
  | _, _, .nil, _ => ⟨[], Own.nil, fun _ _ => .nil⟩
  | _, _, .cons h hs, e => by
    simp only [keepsB, putB, List.all_cons, Bool.and_eq_true, Bool.not_eq_true'] at e
    obtain ⟨O1, o1, f1⟩ := h.sees e.1.1
    obtain ⟨O2, o2, f2⟩ := KRs.sees hs (by unfold keepsB putB; exact e.2)
    exact ⟨O1 ++ O2, o1.app o2, fun O' hO => .cons e.1.2 (f1 O' fun a z => hO a (List.mem_append_left _ z)) (f2 O' fun a z => hO a (List.mem_append_right _ z))⟩
/-- arguments: frozen values, objects of the store among them -/
inductive FAs (G : Gx) (w : Wd) (H : Hp) : List D → List V → Prop
  | nil : FAs G w H [] []
  | cons {d : D} {ds : List D} {v : V} {vs : List V} : FR G w H d v → FAs G w H ds vs → FAs G w H (d :: ds) (v :: vs)
theorem FAs.length : ∀ {ds : List D} {vs : List V}, FAs G w H ds vs → ds.length = vs.length
  | _, _, .nil => rfl
  | _, _, .cons _ hs => by simp [FAs.length hs]
theorem KRs.seesA : ∀ {xs : List KD} {vs : List V}, KRs G Os w H H0 xs vs → argsB xs = true → ∃ O, Own w H H0 O ∧ ∀ O', (∀ a ∈ O, a ∈ O') → FAs G (w.frz O') H (xs.map (·.2)) vs
  | _, _, .nil, _ => ⟨[], Own.nil, fun _ _ => .nil⟩
  | _, _, .cons h hs, e => by
    simp only [argsB, List.all_cons, Bool.and_eq_true] at e
    obtain ⟨O1, o1, f1⟩ := h.sees e.1
    obtain ⟨O2, o2, f2⟩ := KRs.seesA hs (by unfold argsB; exact e.2)
    exact ⟨O1 ++ O2, o1.app o2, fun O' hO => .cons (f1 O' fun a z => hO a (List.mem_append_left _ z)) (f2 O' fun a z => hO a (List.mem_append_right _ z))⟩
theorem Out.args {γ δ : Type} {Rel2 : Wd → Hp → Hp → γ → δ → Prop} {xs : List KD} {f : List D → M γ} {st : Sto} {W : XK} {Q : δ → Hp → Prop} (h : Out G Rel2 w H ((PV.args xs >>= f) st) W Q) : argsB xs = true ∧ Out G Rel2 w H (f (xs.map (·.2)) st) W Q := by
  unfold PV.args at h
  cases e : argsB xs with
  | true => rw [e] at h; exact ⟨rfl, h⟩
  | false => rw [e] at h; exact h.elim
/-- arguments that are kept, ahead of more -/
theorem Out.keeps {γ δ : Type} {Rel2 : Wd → Hp → Hp → γ → δ → Prop} {xs : List KD} {f : List D → M γ} {st : Sto} {W : XK} {Q : δ → Hp → Prop} (h : Out G Rel2 w H ((PV.keeps xs >>= f) st) W Q) : keepsB xs = true ∧ Out G Rel2 w H (f (xs.map (·.2)) st) W Q := by
  unfold PV.keeps at h
  cases e : keepsB xs with
  | true => rw [e] at h; exact ⟨rfl, h⟩
  | false => rw [e] at h; exact h.elim
theorem Out.keep1 {γ δ : Type} {Rel2 : Wd → Hp → Hp → γ → δ → Prop} {x : KD} {f : D → M γ} {st : Sto} {W : XK} {Q : δ → Hp → Prop} (h : Out G Rel2 w H ((PV.keep x >>= f) st) W Q) : keepB x.1 = true ∧ Out G Rel2 w H (f x.2 st) W Q := by
  unfold PV.keep at h
  cases e : keepB x.1 with
  | true => rw [e] at h; exact ⟨rfl, h⟩
  | false => rw [e] at h; exact h.elim
end
section
variable {X : Cx} {G : Gx} {P : Pr} {pos : Pos}
theorem da_nil : DA X G P [] [] := fun W _ => imA pa_nil fun σ H Q ⟨w, ρ, Os, st, g, o⟩ => by
  rw [evEs_nil] at o
  exact o.fin (Po.refl _ _) g.s .nil
theorem da_cons {p : Expr} {ps : List Expr} {e : E} {es : List E} (h : DE X G P p e) (hs : DA X G P ps es) (hst : starEach (p :: ps) X.env = (false, eval p X.env) :: starEach ps X.env := by rfl) : DA X G P (p :: ps) (e :: es) := fun W tk =>
  imA (pa_cons (h W tk) (hs W tk) hst) fun σ H Q ⟨w, ρ, Os, st, g, ot⟩ => by
    rw [evEs_cons] at ot
    refine tE_bind g (Po.refl _ _) ot fun x st1 v w1 H1 g1 p1 k1 o1 => ?_
    refine tA_bind g1 p1 o1 fun xs st2 vs w2 H2 _ g2 p2 k2 o2 => ?_
    exact o2.fin (p1.trans p2) g2.s (.cons (k1.po g1.s.wf p2 g1.ap) (k2.base p1))
theorem newK_cases {xs : List KD} : newK xs = .an ∧ (∀ d ∈ xs.map (·.2), isC d = false) ∨ newK xs = .fr 1 := by
  unfold newK
  by_cases c : (xs.all fun x => !isC x.2) = true
  · rw [if_pos c]
    refine .inl ⟨rfl, fun d hd => ?_⟩
    obtain ⟨x, hx, rfl⟩ := List.mem_map.mp hd
    have := List.all_eq_true.mp c x hx
    simpa using this
  · rw [if_neg c]
    exact .inr rfl
theorem small {n : Nat} (h : n ≤ 1000) : n ≤ sizeLine := Nat.le_of_lt (small1000 h)
theorem de_tup {ps : List Expr} {es : List E} {j : Nat} (h : DA X G P ps es) (hz : es.length ≤ 1000) : DE X G P (.Tuple ps j pos) (.tup es) := fun W tk =>
  imE (pe_tup (h W tk)) fun σ H Q ⟨w, ρ, Os, st, g, ot⟩ => by
    rw [evE] at ot
    refine tA_bind g (Po.refl _ _) ot fun xs st1 vs w1 H1 len g1 p1 k1 o1 => ?_
    obtain ⟨c, o2⟩ := o1.keeps
    obtain ⟨O, own, f⟩ := k1.sees c
    exact ⟨by rw [← k1.length, len]; exact small hz, fun p hp => fin_tup o2 p1 g1.s own (f O fun _ z => z) hp⟩
theorem de_lst {ps : List Expr} {es : List E} (h : DA X G P ps es) (hz : es.length ≤ 1000) : DE X G P (.List ps pos) (.lst es) := fun W tk =>
  imE (pe_lst (h W tk)) fun σ H Q ⟨w, ρ, Os, st, g, ot⟩ => by
    rw [evE] at ot
    refine tA_bind g (Po.refl _ _) ot fun xs st1 vs w1 H1 len g1 p1 k1 o1 => ?_
    obtain ⟨c, o2⟩ := o1.keeps
    obtain ⟨O, own, f⟩ := k1.sees c
    exact ⟨by rw [← k1.length, len]; exact small hz, fun p hp => fin_lst newK_cases o2 p1 g1.s own (f O fun _ z => z) hp⟩
/-! items -/
theorem atI_some {α : Type} {xs : List α} {i : Int} {x : α} (h : atI xs i = some x) : ∃ j, ixN xs.length i = some j ∧ xs[j]? = some x := by
  unfold atI at h
  cases e : ixN xs.length i with
  | none => rw [e] at h; cases h
  | some j => rw [e] at h; exact ⟨j, rfl, h⟩
theorem atI_of {α : Type} {xs : List α} {i : Int} {x : α} {j : Nat} (h : ixN xs.length i = some j) (e : xs[j]? = some x) : atI xs i = some x := by
  unfold atI; rw [h]; exact e
/-- an item of a held list -/
theorem KR.item {Os : List (List Addr)} {w : Wd} {H H0 : Hp} {k : Kd} {ds : List D} {v : V} {i : Int} {d : D} (h : KR G Os w H H0 (k, .lst ds) v) (e : atI ds i = some d) :
    ∃ a vs u O, v = .ref a ∧ H a = some (.lst vs) ∧ atI vs i = some u ∧ Own w H H0 O ∧ ∀ O', (∀ a ∈ O, a ∈ O') → (k ≠ .fz → (∀ a ∈ Os.flatten, a ∉ O')) → KR G Os (w.frz O') H H0 (itemK k d) u := by
  obtain ⟨j, e1, e2⟩ := atI_some e
  have frm : ∀ {l : Nat} {O : List Addr}, VR G w H l O (.lst ds) v → ∃ a vs u O', v = .ref a ∧ H a = some (.lst vs) ∧ atI vs i = some u ∧ (∀ a ∈ O', a ∈ O) ∧ VR G w H (l - 1) O' d u := fun {l O} hv => by
    rcases hv.lst_inv with ⟨q, e0⟩ | ⟨l', a, O', vs, el, e, eO, ha, _, _, hs⟩
    · obtain ⟨a, vs, e, _, ha, hs⟩ := q.lst_inv
      obtain ⟨u, e3, hu⟩ := hs.get e2
      subst e0
      exact ⟨a, vs, u, [], e, ha, atI_of (by rw [← hs.length]; exact e1) e3, by simp, .zero hu⟩
    · obtain ⟨u, O2, e3, hO, hu⟩ := hs.get e2
      refine ⟨a, vs, u, O2, e, ha, atI_of (by rw [← hs.length]; exact e1) e3, fun b z => by rw [eO]; simp [hO b z], ?_⟩
      rw [el]; exact hu
  cases k with
  | fz =>
    obtain ⟨a, vs, u, O', e, ha, e3, _, hu⟩ := frm (.zero h)
    exact ⟨a, vs, u, [], e, ha, e3, Own.nil, fun O' _ _ => FR.frz hu.fr0⟩
  | an =>
    obtain ⟨O, hv, _, hn⟩ := h
    obtain ⟨a, vs, u, O', e, ha, e3, hs, hu⟩ := frm (hv 0)
    exact ⟨a, vs, u, O, e, ha, e3, (hv 0).own hn, fun O2 hO _ => hu.frz fun b z => hO b (hs b z)⟩
  | fr l =>
    obtain ⟨O, hv, _, hn⟩ := h
    obtain ⟨a, vs, u, O', e, ha, e3, hs, hu⟩ := frm hv
    exact ⟨a, vs, u, O, e, ha, e3, hv.own hn, fun O2 hO _ => hu.frz fun b z => hO b (hs b z)⟩
  | bo l =>
    obtain ⟨O, hv, hn⟩ := h
    obtain ⟨a, vs, u, O', e, ha, e3, hs, hu⟩ := frm hv
    refine ⟨a, vs, u, [], e, ha, e3, Own.nil, fun O2 _ ho => ?_⟩
    exact (hu.apart fun b z => ho (fun z => nomatch z) b (hn b (hs b z))).read fun b z => hn b (hs b z)
  | lk =>
    obtain ⟨O, hv, hn⟩ := h
    obtain ⟨a, vs, e, ha, hs, _⟩ := hv.lk_lst
    obtain ⟨u, e3, hu⟩ := hs.get e2
    exact ⟨a, vs, u, [], e, ha, atI_of (by rw [← hs.length]; exact e1) e3, Own.nil, fun O' _ _ => FR.frz hu⟩
/-- a value of a held dict -/
theorem KR.ditem {Os : List (List Addr)} {w : Wd} {H H0 : Hp} {kx : Kd} {kvs : List (Ky × D)} {v : V} {k : Ky} {d : D} (h : KR G Os w H H0 (kx, .dic kvs) v) (e : getK k kvs = some d) :
    ∃ a vs u O, v = .ref a ∧ Rd H a (.dK (zK kvs vs)) ∧ valV (zK kvs vs) k = some u ∧ Own w H H0 O ∧ ∀ O', (∀ a ∈ O, a ∈ O') → (kx ≠ .fz → (∀ a ∈ Os.flatten, a ∉ O')) → KR G Os (w.frz O') H H0 (itemK kx d) u := by
  obtain ⟨j, e2, eg⟩ := getK_some e
  have frm : ∀ {l : Nat} {O : List Addr}, VR G w H l O (.dic kvs) v → ∃ a vs u O', v = .ref a ∧ Rd H a (.dK (zK kvs vs)) ∧ valV (zK kvs vs) k = some u ∧ (∀ a ∈ O', a ∈ O) ∧ VR G w H (l - 1) O' d u := fun {l O} hv => by
    rcases hv.dic_inv with ⟨q, e0⟩ | ⟨l', a, O', vs, el, e, eO, ha, _, _, hs⟩
    · obtain ⟨a, vs, e, _, ha, hs⟩ := q.dic_inv
      obtain ⟨u, e3, hu⟩ := hs.get e2
      subst e0
      exact ⟨a, vs, u, [], e, ha, by rw [eg vs (by simpa using hs.length.symm)]; exact e3, by simp, .zero hu⟩
    · obtain ⟨u, O2, e3, hO, hu⟩ := hs.get e2
      refine ⟨a, vs, u, O2, e, .inl ha, by rw [eg vs (by simpa using hs.length.symm)]; exact e3, fun b z => by rw [eO]; simp [hO b z], ?_⟩
      rw [el]; exact hu
  cases kx with
  | fz =>
    obtain ⟨a, vs, u, O', e, ha, e3, _, hu⟩ := frm (.zero h)
    exact ⟨a, vs, u, [], e, ha, e3, Own.nil, fun O' _ _ => FR.frz hu.fr0⟩
  | an =>
    obtain ⟨O, hv, _, hn⟩ := h
    obtain ⟨a, vs, u, O', e, ha, e3, hs, hu⟩ := frm (hv 0)
    exact ⟨a, vs, u, O, e, ha, e3, (hv 0).own hn, fun O2 hO _ => hu.frz fun b z => hO b (hs b z)⟩
  | fr l =>
    obtain ⟨O, hv, _, hn⟩ := h
    obtain ⟨a, vs, u, O', e, ha, e3, hs, hu⟩ := frm hv
    exact ⟨a, vs, u, O, e, ha, e3, hv.own hn, fun O2 hO _ => hu.frz fun b z => hO b (hs b z)⟩
  | bo l =>
    obtain ⟨O, hv, hn⟩ := h
    obtain ⟨a, vs, u, O', e, ha, e3, hs, hu⟩ := frm hv
    refine ⟨a, vs, u, [], e, ha, e3, Own.nil, fun O2 _ ho => ?_⟩
    exact (hu.apart fun b z => ho (fun z => nomatch z) b (hn b (hs b z))).read fun b z => hn b (hs b z)
  | lk =>
    obtain ⟨O, hv, hn⟩ := h
    obtain ⟨a, vs, e, ha, hs, _⟩ := hv.lk_dic
    obtain ⟨u, e3, hu⟩ := hs.get e2
    exact ⟨a, vs, u, [], e, ha, by rw [eg vs (by simpa using hs.length.symm)]; exact e3, Own.nil, fun O' _ _ => FR.frz hu⟩
theorem NRs.get {w : Wd} {H : Hp} : ∀ {st : Sto} {as O : List Addr} {n : Nat} {nd : Nd} {a : Addr}, NRs G w H st as O → st[n]? = some nd → as[n]? = some a → ∃ O', NR G w H nd a O'
  | _, _, _, _, _, _, .nil, h, _ => by simp at h
  | _, _, _, 0, _, _, .cons h _, e1, e2 => by
    simp at e1 e2
    subst e1; subst e2
    exact ⟨_, h⟩
  | _, _, _, n + 1, _, _, .cons _ r, e1, e2 => NRs.get (n := n) r (by simpa using e1) (by simpa using e2)
theorem de_idx {pa pi : Expr} {a i : E} (hu : X.A.units + 80 < cLine) (hK : X.K = G.K) (ha : DE X G P pa a) (hi : DE X G P pi i) (hs : PlainIx pi) : DE X G P (.Subscript pa pi pos) (.idx a i) := fun W tk =>
  imE (pe_ix (ix_seq.or (RT.ix_dict hu)) (ha W tk) (hi W tk) hs) fun σ H Q ⟨w, ρ, Os, st, g, ot⟩ => by
    rw [evE] at ot
    refine tE_bind g (Po.refl _ _) ot fun x st1 v w1 H1 g1 p1 k1 o1 => ?_
    refine tE_bind g1 p1 o1 fun y st2 u w2 H2 g2 p2 k2 o2 => ?_
    have kx := k1.po g1.s.wf p2 g1.ap
    have pc := p1.trans p2
    rw [hK]
    obtain ⟨kx', dx⟩ := x
    obtain ⟨ky', dy⟩ := y
    unfold idxD at o2
    dsimp only at o2
    split at o2
    · rename_i ds j
      obtain rfl := k2.int
      cases e : atI ds j with
      | none => rw [e] at o2; exact o2.elim
      | some d =>
        rw [e] at o2
        obtain ⟨b, vs, z, O, rfl, hb, ez, own, hk⟩ := kx.item e
        refine .inl (.inl ⟨b, vs, j, z, rfl, rfl, .of hb, ez, ?_⟩)
        have nO : kx' ≠ .fz → ∀ a ∈ Os.flatten, a ∉ O := fun hne a ha hO => by
          have := (own a hO).1
          exact (g2.sl.there a ha).1 (by
            have h0 := (g.sl.there a ha).1
            exact absurd this h0)
        exact o2 z (w2.frz O) H2 (pc.frz fun a z => (own a z).1) (g2.s.frz own) (hk O (fun _ z => z) nO)
    · rename_i ds j
      obtain rfl := k2.int
      cases e : atI ds j with
      | none => rw [e] at o2; exact o2.elim
      | some d =>
        rw [e] at o2
        obtain ⟨b, vs, rfl, hb, hs⟩ := kx.tup
        obtain ⟨j', e1, e2⟩ := atI_some e
        obtain ⟨z, e3, hz⟩ := hs.get e2
        exact .inl (.inr (.inl ⟨b, vs, j, z, rfl, rfl, hb.sqt, atI_of (by rw [← hs.length]; exact e1) e3, Out.fin o2 pc g2.s hz⟩))
    · rename_i z j
      obtain rfl := k2.int
      obtain rfl := kx.str
      obtain ⟨c, o3⟩ := o2.ifno
      cases e : atI z.cps.toList j with
      | none => rw [e] at o3; exact o3.elim
      | some d =>
        rw [e] at o3
        exact .inl (.inr (.inr ⟨z, j, d, rfl, rfl, sz_ok c, e, Out.fin o3 pc g2.s (FR.str _)⟩))
    · rename_i n j
      obtain rfl := k2.int
      have fx := kx.nc rfl
      unfold idxR at o2
      cases fx with
      | @ref _ b eb =>
        cases en : st2[n]? with
        | none => rw [en] at o2; exact o2.elim
        | some nd =>
          rw [en] at o2
          cases nd with
          | ni _ _ => exact o2.elim
          | nk _ _ => exact o2.elim
          | nd _ => exact o2.elim
          | nl ds =>
            unfold idxN at o2
            dsimp only at o2
            cases e : atI ds j with
            | none => rw [e] at o2; exact o2.elim
            | some d =>
              rw [e] at o2
              obtain ⟨O', hn⟩ := g2.s.nr.get en eb
              cases hn with
              | nl hb hs =>
                obtain ⟨j', e1, e2⟩ := atI_some e
                obtain ⟨z, e3, hz⟩ := hs.get e2
                exact .inl (.inl ⟨b, _, j, z, rfl, rfl, .of hb, atI_of (by rw [← hs.length]; exact e1) e3, Out.fin o2 pc g2.s hz⟩)
    · rename_i kvs
      unfold dicGet at o2
      cases ek : keyO dy with
      | none => rw [ek] at o2; exact o2.elim
      | some k =>
        rw [ek] at o2
        cases e : getK k kvs with
        | none => simp only [Option.map_some, e, Option.bind_some, id] at o2; exact o2.elim
        | some d =>
          simp only [Option.map_some, e, Option.bind_some, id] at o2
          obtain ⟨b, vs, z, O, rfl, hb, ez, own, hk⟩ := kx.ditem e
          have ey := k2.keyV (x := (ky', dy)) ek
          refine .inr ⟨b, z, rfl, .inl ⟨_, k, hb, ey, ez.symm⟩, ?_⟩
          have nO : kx' ≠ .fz → ∀ a ∈ Os.flatten, a ∉ O := fun hne a ha hO => by
            have := (own a hO).1
            exact (g2.sl.there a ha).1 (by
              have h0 := (g.sl.there a ha).1
              exact absurd this h0)
          exact o2 z (w2.frz O) H2 (pc.frz fun a z => (own a z).1) (g2.s.frz own) (hk O (fun _ z => z) nO)
    · exact o2.elim
end
end PV

/-! part PV8 -/
/-! PV8: slices, built-in calls. -/
namespace RT
open PySem PySem.W PySem.Spec PyProof.Rows L2
variable {X : Cx}
theorem sumT_raw {prog : Program} {w : World} {A : Around} {E : Value → Shared → Prop} {s : Shared} {l : Addr} {its : List Value} {ns : List Int} {Q : Value → Shared → Prop} (hh : A.handled = none) (hl : s.heap.IsTuple l its.toArray) (hi : IntsAre its ns)
    (h : ∀ h' tk t', (∀ b o, s.heap.get? b = some o → h'.get? b = some o) → Q (.int ns.sum t') { s with heap := h', toks := tk }) : wpAny (model prog w) A (call (.builtin "sum") [.ref l]) Q E s := by
  obtain ⟨xs, e⟩ := hi.allInts.items
  have hn : numsOf (intItems xs).toList = ns := by rw [← e]; exact hi.numsOf
  rw [nums_intItems] at hn
  rw [e] at hl
  have hlt : l < s.heap.objs.size := by obtain ⟨_, e, _⟩ := hl; exact Heap.lt_size e
  refine call_sum_walkG (wpAny_pyIter_tuple hl ?_)
  refine ⟨_, [_, l], [_], _, _, _, numAt xs, rfl, Walks.tuple (A := A.in1) hh _ l (Nat.ne_of_lt hlt) (intItems xs), ⟨⟨_, Heap.get?_push_size _ rfl, rfl, rfl⟩, hl.push _⟩, fun c hc => ?_, (fun _ _ => intItems_at), fun h' tk t' hk => ?_⟩
  · show c < (s.heap.push _).objs.size
    rw [Heap.size_push]
    rcases List.mem_cons.mp hc with rfl | hc
    · exact Nat.lt_succ_self _
    · obtain rfl : c = l := by simpa using hc
      exact Nat.lt_succ_of_lt hlt
  · have := h h' tk t' fun b o q => hk b o (by simp; exact Nat.ne_of_lt (Heap.lt_size q)) (Heap.get?_push_of_some _ q)
    rw [preSum_eq, List.take_of_length_le (by simp [intItems]), hn]
    exact this
def rSumT (K : PySem.W.Frag) : List V → Hp → VK → Prop := fun vs H Q => ∃ (a : Addr) (ns : List Int), vs = [V.ref a] ∧ SqT K H a (ns.map V.int) ∧ Q (.int ns.sum) H
theorem cr_sumT (hc : X.calm = true) : CallR X (.builtin "sum") (rSumT X.K) := by
  intro pins s σ H vs us Q I r h
  obtain ⟨a, ns, rfl, hs, q⟩ := h
  obtain ⟨its, rv, hl, _⟩ := I.tuple hs
  rw [Vals.ref1 r]
  exact sumT_raw (I.ok.hd hc) hl rv.ints fun h' tk t' hk => ⟨.int _, H, I.kept hk, ⟨_, rfl⟩, q⟩
end RT
namespace PV
open PySem L2 LamX NdefX

def OR (w : Wd) (H H0 : Hp) (a b : Option Int) : Prop := a = b
def tO (G : Gx) (P : Pr) (W : WX) (e : Option E) : TO := fun σ H Q => ∃ w ρ Os st, Gd G w H σ ρ Os st ∧ Out G OR w H (evO P e ρ st) (WS W σ) Q
def DO (X : Cx) (G : Gx) (P : Pr) (e : Option Expr) (E : Option E) : Prop := ∀ W, TkM P.nm X W → PO X e (tO G P W E)
section
variable {X : Cx} {G : Gx} {P : Pr} {pos : Pos}
def rSlA2 (K : PySem.W.Frag) : V → Option Int → Option Int → Hp → VK → Prop := fun x lo hi H Q => (rSlL K x lo hi H Q ∨ rSlA K x lo hi H Q) ∨ rSlS x lo hi H Q
/-! built-in functions -/
/-- a built-in of one shape -/
theorem de_call {b : Bi} {x : Str} {p : Expr} {ps : List Expr} {es : List E} {q : Pos} {r : List V → Hp → VK → Prop}
    (hpe : ∀ {t : TA}, PA X (p :: ps) t → PE X (.Call (.Name x q) (p :: ps) [] pos) (tCB r t)) (h : DA X G P (p :: ps) es)
    (hr : ∀ {w wc : Wd} {H Hc : Hp} {Os : List (List Addr)} {xs : List KD} {vs : List V} {st : Sto} {W : XK} {Q : VK}, Out G (KR G Os) w H (biD b xs st) W Q → Po w H wc Hc → St G wc Hc st → KRs G Os wc Hc H xs vs → r vs Hc Q) :
    DE X G P (.Call (.Name x q) (p :: ps) [] pos) (.bi b es) := fun W tk =>
  imE (hpe (h W tk)) fun σ H Q ⟨w, ρ, Os, st, g, ot⟩ => by
    rw [evE] at ot
    refine tA_bind g (Po.refl _ _) ot fun xs st1 vs w1 H1 len g1 p1 k1 o1 => ?_
    exact hr o1 p1 g1.s k1
section
variable {p : Expr} {ps : List Expr} {es : List E} {q : Pos}
theorem KRs.one {w : Wd} {H H0 : Hp} {Os : List (List Addr)} {x : KD} {vs : List V} (h : KRs G Os w H H0 [x] vs) : ∃ v, vs = [v] ∧ KR G Os w H H0 x v := by
  cases h with
  | cons a b => cases b; exact ⟨_, rfl, a⟩
theorem KRs.two {w : Wd} {H H0 : Hp} {Os : List (List Addr)} {x y : KD} {vs : List V} (h : KRs G Os w H H0 [x, y] vs) : ∃ v u, vs = [v, u] ∧ KR G Os w H H0 x v ∧ KR G Os w H H0 y u := by
  cases h with
  | cons a b => cases b with | cons b c => cases c; exact ⟨_, _, rfl, a, b⟩
theorem KR.sqT {w : Wd} {H H0 : Hp} {Os : List (List Addr)} {k : Kd} {ds : List D} {v : V} (h : KR G Os w H H0 (k, .tup ds) v) : ∃ a vs, v = .ref a ∧ SqT G.K H a vs ∧ ds.length = vs.length := by
  obtain ⟨a, vs, e, h1, h2⟩ := h.tup
  exact ⟨a, vs, e, h1.sqt, h2.length⟩
theorem Out.b1 {α β : Type} {Rel : Wd → Hp → Hp → α → β → Prop} {w : Wd} {H : Hp} {f : KD → M α} {xs : List KD} {st : Sto} {W : XK} {Q : β → Hp → Prop} (h : Out G Rel w H (b1 f xs st) W Q) : ∃ x, xs = [x] ∧ Out G Rel w H (f x st) W Q := by
  match xs, h with
  | [x], h => exact ⟨x, rfl, h⟩
  | [], h => exact h.elim
  | _ :: _ :: _, h => exact h.elim
theorem Out.b2 {α β : Type} {Rel : Wd → Hp → Hp → α → β → Prop} {w : Wd} {H : Hp} {f : KD → KD → M α} {xs : List KD} {st : Sto} {W : XK} {Q : β → Hp → Prop} (h : Out G Rel w H (b2 f xs st) W Q) : ∃ x y, xs = [x, y] ∧ Out G Rel w H (f x y st) W Q := by
  match xs, h with
  | [x, y], h => exact ⟨x, y, rfl, h⟩
  | [], h => exact h.elim
  | [_], h => exact h.elim
  | _ :: _ :: _ :: _, h => exact h.elim
/-- one argument -/
theorem de_call1 {b : Bi} {f : KD → M KD} {x : Str} {r : List V → Hp → VK → Prop} (hb : ∀ xs, biD b xs = b1 f xs)
    (hpe : ∀ {t : TA}, PA X (p :: ps) t → PE X (.Call (.Name x q) (p :: ps) [] pos) (tCB r t)) (h : DA X G P (p :: ps) es)
    (hr : ∀ {w wc : Wd} {H Hc : Hp} {Os : List (List Addr)} {k : Kd} {d : D} {v : V} {st : Sto} {W : XK} {Q : VK}, Out G (KR G Os) w H (f (k, d) st) W Q → Po w H wc Hc → St G wc Hc st → KR G Os wc Hc H (k, d) v → r [v] Hc Q) :
    DE X G P (.Call (.Name x q) (p :: ps) [] pos) (.bi b es) := de_call hpe h fun {w wc H Hc Os xs vs st W Q} o pc s k => by
  rw [hb] at o
  obtain ⟨x, rfl, o⟩ := o.b1
  obtain ⟨v, rfl, kx⟩ := k.one
  exact hr (k := x.1) (d := x.2) o pc s kx
theorem de_call2 {b : Bi} {f : KD → KD → M KD} {x : Str} {r : List V → Hp → VK → Prop} (hb : ∀ xs, biD b xs = b2 f xs)
    (hpe : ∀ {t : TA}, PA X (p :: ps) t → PE X (.Call (.Name x q) (p :: ps) [] pos) (tCB r t)) (h : DA X G P (p :: ps) es)
    (hr : ∀ {w wc : Wd} {H Hc : Hp} {Os : List (List Addr)} {k k' : Kd} {d d' : D} {v v' : V} {st : Sto} {W : XK} {Q : VK}, Out G (KR G Os) w H (f (k, d) (k', d') st) W Q → Po w H wc Hc → St G wc Hc st → KR G Os wc Hc H (k, d) v → KR G Os wc Hc H (k', d') v' → r [v, v'] Hc Q) :
    DE X G P (.Call (.Name x q) (p :: ps) [] pos) (.bi b es) := de_call hpe h fun {w wc H Hc Os xs vs st W Q} o pc s k => by
  rw [hb] at o
  obtain ⟨x, y, rfl, o⟩ := o.b2
  obtain ⟨v, v', rfl, kx, ky⟩ := k.two
  exact hr (k := x.1) (d := x.2) (k' := y.1) (d' := y.2) o pc s kx ky
def rLenA (K : PySem.W.Frag) : List V → Hp → VK → Prop := fun xs H Q => (∃ p ys, xs = [.ref p] ∧ (SqL K H p ys ∨ SqT K H p ys) ∧ Q (.int ys.length) H) ∨ (∃ z, xs = [.str z] ∧ z.length ≤ sizeLine ∧ Q (.int z.length) H) ∨ (∃ a kvs, xs = [V.ref a] ∧ Rd H a (.dK kvs) ∧ Q (.int kvs.length) H) ∨ ∃ a kvs, xs = [V.ref a] ∧ Rd H a (.dT kvs) ∧ Q (.int kvs.length) H
theorem de_len (hK : X.K = G.K) (hg : Gl X "len") (hm : X.mg "len" = none) (h : DA X G P (p :: ps) es)
    (he : starEach (p :: ps) X.env = (false, eval p X.env) :: starEach ps X.env := by rfl) (hpl : (backTo pos (starEach ps X.env)).any (·.1) = false := by rfl) : DE X G P (.Call (.Name "len" q) (p :: ps) [] pos) (.bi .len es) := by
  refine de_call1 (r := rLenA X.K) (f := lenD) (fun _ => rfl) (fun ha => pe_callB (call_len_seq.or (call_len_str.or (RT.call_lenRd.or RT.call_lenRdT))) hg hm PySem.boot_len ha (he := he) (hpl := hpl)) h fun {w wc H Hc Os k d v st W Q} o pc s kx => ?_
  rw [hK]
  unfold lenD at o
  cases d with
  | lst ds =>
    obtain ⟨a, us, rfl, ha, el⟩ := kx.head
    exact .inl ⟨a, us, rfl, .inl (.of ha), by rw [← el]; exact Out.fin o pc s (FR.int _)⟩
  | tup ds =>
    obtain ⟨a, us, rfl, ha, el⟩ := kx.sqT
    exact .inl ⟨a, us, rfl, .inr ha, by rw [← el]; exact Out.fin o pc s (FR.int _)⟩
  | str z =>
    obtain rfl := kx.str
    obtain ⟨c, o⟩ := Out.ifno o
    exact .inr (.inl ⟨_, rfl, sz_ok c, Out.fin o pc s (FR.int _)⟩)
  | dic kvs =>
    obtain ⟨a, us, rfl, ha, el⟩ := kx.dicH
    have e : (zK kvs us).length = kvs.length := by simp [zK]; omega
    exact .inr (.inr (.inl ⟨a, _, rfl, ha, by rw [e]; exact Out.fin o pc s (FR.int _)⟩))
  | dit kvs =>
    obtain ⟨a, us, rfl, ha, el⟩ := kx.ditH
    have e : (zK kvs us).length = kvs.length := by simp [zK]; omega
    exact .inr (.inr (.inr ⟨a, _, rfl, ha, by rw [e]; exact Out.fin o pc s (FR.int _)⟩))
  | _ => exact o.elim
theorem de_abs (hg : Gl X "abs") (hm : X.mg "abs" = none) (h : DA X G P (p :: ps) es)
    (he : starEach (p :: ps) X.env = (false, eval p X.env) :: starEach ps X.env := by rfl) (hpl : (backTo pos (starEach ps X.env)).any (·.1) = false := by rfl) : DE X G P (.Call (.Name "abs" q) (p :: ps) [] pos) (.bi .abs es) := by
  refine de_call1 (f := absD) (fun _ => rfl) (fun ha => pe_callB call_abs hg hm (by decide +kernel) ha (he := he) (hpl := hpl)) h fun {w wc H Hc Os k d v st W Q} o pc s kx => ?_
  unfold absD at o
  cases d with
  | int i => exact ⟨i, by rw [kx.int], Out.fin o pc s (FR.int _)⟩
  | _ => exact o.elim
theorem de_intc (hg : Gl X "int") (hm : X.mg "int" = none) (h : DA X G P (p :: ps) es)
    (he : starEach (p :: ps) X.env = (false, eval p X.env) :: starEach ps X.env := by rfl) (hpl : (backTo pos (starEach ps X.env)).any (·.1) = false := by rfl) : DE X G P (.Call (.Name "int" q) (p :: ps) [] pos) (.bi .int es) := by
  refine de_call1 (f := intD) (fun _ => rfl) (fun ha => pe_callTy call_int1 hg hm (by decide +kernel) ha (he := he) (hpl := hpl)) h fun {w wc H Hc Os k d v st W Q} o pc s kx => ?_
  unfold intD at o
  cases d with
  | int i => exact .inl ⟨i, by rw [kx.int], Out.fin o pc s (FR.int _)⟩
  | bl b => exact .inr ⟨b, by rw [kx.bl], Out.fin o pc s (FR.int _)⟩
  | _ => exact o.elim
theorem cr_or {X : Cx} {f : Value} {r1 r2 : List V → Hp → VK → Prop} (h1 : CallR X f r1) (h2 : CallR X f r2) : CallR X f (fun xs H Q => r1 xs H Q ∨ r2 xs H Q) := fun pins s σ H xs us Q I r q => q.elim (h1 pins s σ H xs us Q I r) (h2 pins s σ H xs us Q I r)
theorem de_tuple (hK : X.K = G.K) (hg : Gl X "tuple") (hm : X.mg "tuple" = none) (h : DA X G P (p :: ps) es)
    (he : starEach (p :: ps) X.env = (false, eval p X.env) :: starEach ps X.env := by rfl) (hpl : (backTo pos (starEach ps X.env)).any (·.1) = false := by rfl) : DE X G P (.Call (.Name "tuple" q) (p :: ps) [] pos) (.bi .tuple es) := by
  refine de_call1 (f := tupleD) (fun _ => rfl) (fun ha => pe_callTy call_tuple_of hg hm (by decide +kernel) ha (he := he) (hpl := hpl)) h fun {w wc H Hc Os k d v st W Q} o pc s kx => ?_
  rw [hK]
  unfold tupleD at o
  cases d with
  | lst ds =>
    obtain ⟨c, o⟩ := Out.ifno o
    obtain ⟨O, b, vs, own, rfl, hb, f⟩ := kx.items c
    exact ⟨b, vs, rfl, .inl ⟨.of hb, fun p hp => fin_tup o pc s own (f O fun _ z => z) hp⟩⟩
  | tup ds =>
    obtain ⟨a, us, rfl, ha, hs⟩ := kx.tup
    exact ⟨a, us, rfl, .inr ⟨ha.sqt, Out.fin o pc s (show FR G wc Hc _ _ from .tup ha hs)⟩⟩
  | _ => exact o.elim
/-- ints, as the heap bears them -/
theorem ints_of {ds : List D} : ∀ {is : List Int}, intsO ds = some is → ds = is.map .int := by
  induction ds with
  | nil => intro is h; rw [intsO] at h; cases h; rfl
  | cons d ds ih =>
    intro is h
    rw [intsO] at h
    split at h
    · rename_i i js e1 e2
      cases h
      cases d with
      | int j => rw [intO] at e1; cases e1; rw [ih e2]; rfl
      | _ => rw [intO] at e1; cases e1; all_goals simp
    · cases h
theorem FRs.ints {w : Wd} {H : Hp} : ∀ {is : List Int} {vs : List V}, FRs G w H (is.map .int) vs → vs = is.map .int
  | [], _, h => by cases h; rfl
  | i :: is, _, h => by
    cases h with
    | cons n a b => cases a; rw [FRs.ints b]; rfl
theorem VRs.ints {w : Wd} {H : Hp} {l : Nat} {O : List Addr} : ∀ {is : List Int} {vs : List V} {O : List Addr}, VRs G w H l O (is.map .int) vs → vs = is.map .int
  | [], _, _, h => by cases h; rfl
  | i :: is, _, _, h => by
    cases h with
    | cons n a b =>
      have a := a.ncf rfl
      cases a; rw [VRs.ints (O := []) b]; rfl
theorem KR.ints {w : Wd} {H H0 : Hp} {Os : List (List Addr)} {k : Kd} {is : List Int} {v : V} (h : KR G Os w H H0 (k, .lst (is.map .int)) v) : ∃ a, v = .ref a ∧ H a = some (.lst (is.map .int)) := by
  have of : ∀ {l : Nat} {O : List Addr}, VR G w H l O (.lst (is.map .int)) v → ∃ a, v = .ref a ∧ H a = some (.lst (is.map .int)) := fun {l O} hv => by
    rcases hv.lst_inv with ⟨q, e0⟩ | ⟨l', a, O', vs, el, e, eO, ha, _, _, hs⟩
    · obtain ⟨a, vs, e, _, ha, hs⟩ := q.lst_inv
      obtain rfl := hs.ints
      exact ⟨a, e, ha⟩
    · obtain rfl := VRs.ints (O := []) hs
      exact ⟨a, e, ha⟩
  cases k with
  | fz => exact of (.zero h)
  | an => obtain ⟨O, hv, _, hn⟩ := h; exact of (hv 0)
  | fr l => obtain ⟨O, hv, _, hn⟩ := h; exact of hv
  | bo l => obtain ⟨O, hv, _⟩ := h; exact of hv
  | lk =>
    obtain ⟨O, hv, _⟩ := h
    obtain ⟨a, vs, e, ha, hs, _⟩ := hv.lk_lst
    obtain rfl := hs.ints
    exact ⟨a, e, ha⟩
theorem de_sum (hc : X.calm = true) (hK : X.K = G.K) (hg : Gl X "sum") (hm : X.mg "sum" = none) (h : DA X G P (p :: ps) es)
    (he : starEach (p :: ps) X.env = (false, eval p X.env) :: starEach ps X.env := by rfl) (hpl : (backTo pos (starEach ps X.env)).any (·.1) = false := by rfl) : DE X G P (.Call (.Name "sum" q) (p :: ps) [] pos) (.bi .sum es) := by
  refine de_call1 (f := sumD) (fun _ => rfl) (fun ha => pe_callB (cr_or (cr_sum hc) (RT.cr_sumT hc)) hg hm (by decide +kernel) ha (he := he) (hpl := hpl)) h fun {w wc H Hc Os k d v st W Q} o pc s kx => ?_
  rw [hK]
  unfold sumD at o
  cases d with
  | lst ds =>
    obtain ⟨is, e, o2⟩ := Out.ofO (o := intsO ds) o
    obtain rfl := ints_of e
    obtain ⟨a, rfl, ha⟩ := kx.ints
    exact .inl ⟨a, is, rfl, .of ha, Out.fin (Rel := KR G Os) o2 pc s (FR.int _)⟩
  | tup ds =>
    obtain ⟨is, e, o2⟩ := Out.ofO (o := intsO ds) o
    obtain rfl := ints_of e
    obtain ⟨a, vs, rfl, ha, hs⟩ := kx.tup
    obtain rfl := hs.ints
    exact .inr ⟨a, is, rfl, ha.sqt, Out.fin (Rel := KR G Os) o2 pc s (FR.int _)⟩
  | _ => exact o.elim
theorem de_max2 (hc : X.calm = true) (hg : Gl X "max") (hm : X.mg "max" = none) (h : DA X G P (p :: ps) es)
    (he : starEach (p :: ps) X.env = (false, eval p X.env) :: starEach ps X.env := by rfl) (hpl : (backTo pos (starEach ps X.env)).any (·.1) = false := by rfl) : DE X G P (.Call (.Name "max" q) (p :: ps) [] pos) (.bi .max2 es) := by
  refine de_call2 (f := max2D) (fun _ => rfl) (fun ha => pe_callB (call_max2 hc) hg hm (by decide +kernel) ha (he := he) (hpl := hpl)) h fun {w wc H Hc Os k k' d d' v v' st W Q} o pc s kx ky => ?_
  unfold max2D at o
  cases d with
  | int i =>
    cases d' with
    | int j => exact ⟨i, j, by rw [kx.int, ky.int], Out.fin o pc s (FR.int _)⟩
    | _ => exact o.elim
  | _ => exact o.elim
end
end
end PV

/-! part PV9 -/
/-! PV9: defs called, methods, fields, instances made. -/
namespace PV
open PySem L2 LamX NdefX

def FRel (G : Gx) (w : Wd) (H H0 : Hp) (d : D) (v : V) : Prop := FR G w H d v
/-- a def's promise: it does what m says -/
def spF (G : Gx) (n : Nat) (m : List D → M D) : Sp := fun vs H Q E => vs.length = n ∧ ∃ w st ds, St G w H st ∧ FAs G w H ds vs ∧ Out G (FRel G) w H (m ds st) E Q
/-- the def x is called -/
structure Fn (b : Nat) (X : Cx) (G : Gx) (k : Nat) (x : Str) (n : Nat) (m : List D → M D) : Prop where
  go : ∃ f fd ps, X.mg x = some (.ref f) ∧ PySem.W.keepIn X.K (.ref f) = true ∧ Binds X.K fd ps [] ∧ FnOk X.prog X.w X.K X.mg X.base (CXm b X.prog X.w) k f fd ps (spF G n m)
/-- a method m of the class at C -/
structure Mt (b : Nat) (X : Cx) (G : Gx) (k : Nat) (C : Addr) (x : Str) (n : Nat) (m : List D → M D) : Prop where
  go : ∃ f fd ps, Meth X.K C x f ∧ Binds X.K fd ps [] ∧ FnOk X.prog X.w X.K X.mg X.base (CXm b X.prog X.w) k f fd ps (spF G n m)
structure Nw (b : Nat) (X : Cx) (G : Gx) (k : Nat) (x : Str) (c n : Nat) (m : List D → M D) : Prop where
  go : ∃ C fs f fd ps, X.mg x = some (.ref C) ∧ G.cl c = some (C, fs) ∧ Mk X.K C f ∧ Binds X.K fd ps [] ∧ FnOk X.prog X.w X.K X.mg X.base (CXm b X.prog X.w) k f fd ps (spF G (n + 1) m)

section
variable {X : Cx} {CX : CXT} {k : Nat} {f C : Addr} {fd : FuncData} {ps : List Str} {sp : Sp} {E : L2.St → XK} {x m : Str} {p pos apos : Pos} {e o : Expr} {es : List Expr} {ta : TE} {t : TA}
def tMethS2 (C : Addr) (m : Str) (sp : Sp) (E : L2.St → XK) (ta : TE) (t : TA) : TE := fun σ H Q => ta σ H fun x H1 => ∃ a dx fs, x = .ref a ∧ H1 a = some (.ins C dx fs) ∧ fs.lookup m = none ∧ t σ H1 fun vs H2 => sp (x :: vs) H2 Q (E σ)
theorem pe_methS2 {pl : Sem Bool} (he : PE X o ta) (c : Cls X.K C) (hm : Meth X.K C m f) (F : FnOk X.prog X.w X.K X.mg X.base CX k f fd ps sp) (hr : Room k X.A) (hb : Binds X.K fd ps []) (hx : ∀ σ, PassesAt CX X σ (E σ)) (ha : PA X (e :: es) t)
    (hst : starEach (e :: es) X.env = (false, eval e X.env) :: starEach es X.env) (hpl : (backTo pos (starEach es X.env)).any (·.1) = false)
    (ht : eval (.Call (.Attribute o m apos) (e :: es) [] pos) X.env = (do
      let ov ← eval o X.env
      standAt apos.atName
      let (f, first) ← holding [ov] (getMethod ov m pl)
      callWith pos f first (backTo pos (starEach (e :: es) X.env)) (backToKw pos (keywordEach [] X.env)))) :
    PE X (.Call (.Attribute o m apos) (e :: es) [] pos) (tMethS2 C m sp E ta t) := by
  refine ⟨fun pins s σ H Q I h => PySem.W.methodCall_KW (pl := pl) (thn (he.run pins s σ H _ I h) fun u s1 hh => ?_) ht⟩
  obtain ⟨x, H1, I1, rx, a, dx, fs, ex, ea, l, q⟩ := hh
  subst ex
  obtain rfl : u = Value.ref a := rx
  refine getmeth_ok I1 ea c hm l (PySem.W.callWith_K (first := [.ref a]) (h₀ := X.base) I.ok.mod.kin hm.kp (thn (ha.run pos pins s1 σ H1 _ I1 q) fun us s2 hh => ?_) hst hpl)
  obtain ⟨vs, H2, I2, r, q2⟩ := hh
  exact ⟨I2.kIn, run_fnS (us := .ref a :: us) (vs := .ref a :: vs) F hr hb (hx σ) I2 (.cons rfl r) q2⟩
theorem pe_methS20 {pl : Sem Bool} (he : PE X o ta) (c : Cls X.K C) (hm : Meth X.K C m f) (F : FnOk X.prog X.w X.K X.mg X.base CX k f fd ps sp) (hr : Room k X.A) (hb : Binds X.K fd ps []) (hx : ∀ σ, PassesAt CX X σ (E σ))
    (ht : eval (.Call (.Attribute o m apos) [] [] pos) X.env = (do
      let ov ← eval o X.env
      standAt apos.atName
      let (f, first) ← holding [ov] (getMethod ov m pl)
      callWith pos f first (backTo pos (starEach [] X.env)) (backToKw pos (keywordEach [] X.env)))) :
    PE X (.Call (.Attribute o m apos) [] [] pos) (tMethS2 C m sp E ta tNil) := by
  refine ⟨fun pins s σ H Q I h => PySem.W.methodCall_KW (pl := pl) (thn (he.run pins s σ H _ I h) fun u s1 hh => ?_) ht⟩
  obtain ⟨x, H1, I1, rx, a, dx, fs, ex, ea, l, q⟩ := hh
  subst ex
  obtain rfl : u = Value.ref a := rx
  exact getmeth_ok I1 ea c hm l (PySem.W.callWith_K0 (first := [.ref a]) I1.kIn hm.kp (run_fnS (us := [.ref a]) (vs := [.ref a]) F hr hb (hx σ) I1 (.cons rfl .nil) q))
theorem run_makeS {pins : List (Addr × Obj)} {σ : L2.St} {H : Hp} {s : Shared} {Q : VK} {us : List Value} {vs : List V} (M : Mk X.K C f) (F : FnOk X.prog X.w X.K X.mg X.base CX k f fd ps sp) (hr : Room (k + 1) X.A) (hb : Binds X.K fd ps [])
    (hx : PassesAt CX X σ (E σ)) (I : Inv X pins σ H s) (r : Vals vs us)
    (h : ∀ x dx, H x = none → H dx = none → dx ≠ x → sp (.ref x :: vs) (upd (upd H dx (.own x)) x (.ins C dx [])) (fun v H2 => v = .non ∧ Q (.ref x) H2) (E σ)) :
    wpAny (model X.prog X.w) X.A (call (.ref C) us) (EP X pins σ Q) X.xe s := by
  have hq := h (s.heap.objs.size + 1) s.heap.objs.size (I.hok.fresh (Nat.le_succ _)) (I.hok.fresh (Nat.le_refl _)) (Nat.ne_of_lt (Nat.lt_succ_self _))
  have J := Inv.made (C := C) I
  have r2 : Vals (V.ref (s.heap.objs.size + 1) :: vs) (Value.ref (s.heap.objs.size + 1) :: us) := .cons rfl r
  have hl : (Value.ref (s.heap.objs.size + 1) :: us ++ []).length = ps.length := by
    rw [List.append_nil, ← r2.length]
    exact F.len _ _ _ _ hq
  have bt := hb _ (Value.ref (s.heap.objs.size + 1) :: us) J.kIn hl
  rw [List.append_nil] at bt
  refine wpAny_call (make_map (f := f) I.kIn M.makes M.init (beq_iff_eq.mp M.fn) (codeAny_mono (F.run _ X.stack _ _ ⟨Value.ref (s.heap.objs.size + 1) :: us, []⟩ (Value.ref (s.heap.objs.size + 1) :: us) _ _ (E σ) (hr.make C us [])
    (J.env0.make C us []) bt r2 hq) fun r s' hq' => ?_))
  cases r with
  | error e => exact hx pins _ _ e s' J hq'
  | ok fl =>
    cases fl with
    | ret u =>
      obtain ⟨v, H', I3, rv, ev, q3⟩ := J.after hq'
      subst ev
      exact ⟨rv, ⟨V.ref (s.heap.objs.size + 1), H', I3, rfl, q3⟩⟩
    | next => exact hq'.elim
    | brk => exact hq'.elim
    | cont => exact hq'.elim
def tMakeS (C : Addr) (sp : Sp) (E : L2.St → XK) (t : TA) : TE := fun σ H Q => t σ H fun vs H1 => ∀ x dx, H1 x = none → H1 dx = none → dx ≠ x → sp (.ref x :: vs) (upd (upd H1 dx (.own x)) x (.ins C dx [])) (fun v H2 => v = .non ∧ Q (.ref x) H2) (E σ)
theorem pe_makeS (M : Mk X.K C f) (F : FnOk X.prog X.w X.K X.mg X.base CX k f fd ps sp) (hr : Room (k + 1) X.A) (hg : Gl X x) (hm : X.mg x = some (.ref C)) (hb : Binds X.K fd ps []) (hx : ∀ σ, PassesAt CX X σ (E σ))
    (ha : PA X (e :: es) t) (hdb : (x == ("__debug__" : Str)) = false) (he : starEach (e :: es) X.env = (false, eval e X.env) :: starEach es X.env) (hpl : (backTo pos (starEach es X.env)).any (·.1) = false) :
    PE X (.Call (.Name x p) (e :: es) [] pos) (tMakeS C sp E t) := by
  refine ⟨fun pins s σ H Q I h => wpAny_Call_Name_kw (ld_glob I hg hm ?_ hdb)⟩
  refine PySem.W.callWith_K (h₀ := X.base) I.ok.mod.kin M.kp (thn (ha.run pos pins s σ H _ I h) fun us s1 hh => ?_) he hpl
  obtain ⟨vs, H1, I1, r, q⟩ := hh
  exact ⟨I1.kIn, run_makeS M F hr hb (hx σ) I1 r q⟩
end

section
variable {X : Cx} {G : Gx} {P : Pr} {pos : Pos} {k n : Nat} {x : Str} {q : Pos} {p : Expr} {ps : List Expr} {es : List E}
/-- the callee's promise, asked by what follows -/
theorem call_fin {w wc : Wd} {H Hc : Hp} {Os : List (List Addr)} {m : List D → M D} {ds : List D} {vs : List V} {st : Sto} {W : XK} {Q : VK} (o : Out G (KR G Os) w H ((m ds >>= fun d => pure (.fz, d) : M KD) st) W Q) (pc : Po w H wc Hc) (s : St G wc Hc st) (fa : FAs G wc Hc ds vs) (hn : vs.length = n) : spF G n m vs Hc Q W :=
  ⟨hn, wc, st, ds, s, fa, Out.bind pc o fun d st2 v w2 H2 p2 s2 r o3 => o3.fin (pc.trans p2) s2 r⟩
theorem de_fn {f : Nat} (hf : Fn P.nm X G k x n (P.fn f)) (hr : Room k X.A) (hg : Gl X x) (h : DA X G P (p :: ps) es) (hn : es.length = n)
    (hdb : (x == ("__debug__" : Str)) = false := by decide) (he : starEach (p :: ps) X.env = (false, eval p X.env) :: starEach ps X.env := by rfl) (hpl : (backTo pos (starEach ps X.env)).any (·.1) = false := by rfl) : DE X G P (.Call (.Name x q) (p :: ps) [] pos) (.call f es) := fun W tk => by
  obtain ⟨fa, fd, pns, hm, hk, hb, F⟩ := hf.go
  refine imE (pe_callS (E := WE W) F hr hg hm hk hb (tk.pass) (h W tk) hdb he hpl) fun σ H Q hh => ?_
  obtain ⟨w, ρ, Os, st, g, ot⟩ := hh
  rw [evE] at ot
  refine tA_bind g (Po.refl _ _) ot fun xs st1 vs w1 H1 len g1 p1 k1 o1 => ?_
  obtain ⟨c, o2⟩ := o1.args
  obtain ⟨O, own, fr⟩ := k1.seesA c
  exact call_fin o2 (p1.frz fun a z => (own a z).1) (g1.s.frz own) (fr O fun _ z => z) (by rw [← k1.length, len]; exact hn)
/-! fields -/
theorem zip_get : ∀ {fs : List Str} {vs : List V} {j : Nat} {x : Str} {v : V}, fs.Nodup → fs[j]? = some x → vs[j]? = some v → (fs.zip vs).lookup x = some v
  | [], _, _, _, _, _, h, _ => by simp at h
  | _ :: _, [], _, _, _, _, _, h => by simp at h
  | f :: fs, u :: vs, 0, x, v, _, h1, h2 => by
    simp at h1 h2
    subst h1; subst h2
    simp [List.lookup]
  | f :: fs, u :: vs, j + 1, x, v, nd, h1, h2 => by
    have hx : x ∈ fs := List.mem_of_getElem? (by simpa using h1)
    have ne : (x == f) = false := by
      rw [beq_eq_false_iff_ne]
      rintro rfl
      exact (List.nodup_cons.mp nd).1 hx
    simp only [List.zip_cons_cons, List.lookup_cons, ne]
    exact zip_get (j := j) (List.nodup_cons.mp nd).2 (by simpa using h1) (by simpa using h2)
theorem zip_no : ∀ {fs : List Str} {vs : List V} {x : Str}, x ∉ fs → (fs.zip vs).lookup x = none
  | [], _, _, _ => by simp
  | _ :: _, [], _, _ => by simp
  | f :: fs, u :: vs, x, h => by
    have ne : (x == f) = false := by
      rw [beq_eq_false_iff_ne]
      rintro rfl
      simp at h
    simp only [List.zip_cons_cons, List.lookup_cons, ne]
    exact zip_no fun z => h (by simp [z])
theorem NRs.len {w : Wd} {H : Hp} : ∀ {st : Sto} {as O : List Addr}, NRs G w H st as O → st.length = as.length
  | _, _, _, .nil => rfl
  | _, _, _, .cons _ r => by simp [NRs.len r]
/-- an instance as it stands: its class, its fields' names (some of the class's, from the first on) and values -/
theorem inst_cls {γ δ : Type} {w wc : Wd} {H Hc : Hp} {Rel2 : Wd → Hp → Hp → γ → δ → Prop} {o : D} {v : V} {st : Sto} {f : Nat → M γ} {W : XK} {Q : δ → Hp → Prop} (fr : FR G wc Hc o v) (s : St G wc Hc st) (h : Out G Rel2 w H ((clsD o >>= f) st) W Q) :
    ∃ c a C dx fs us vs, v = .ref a ∧ Hc a = some (.ins C dx (List.zip us vs)) ∧ G.cl c = some (C, fs) ∧ (∀ x ∈ us, x ∈ fs) ∧ Out G Rel2 w H (f c st) W Q := by
  cases o with
  | ins c ds =>
    cases fr with
    | ins h1 h2 h3 h4 h5 => exact ⟨c, _, _, _, _, _, _, rfl, h2, h3, fun _ z => z, h⟩
  | ref n =>
    cases fr with
    | ref e =>
      have h2 : Out G Rel2 w H ((clsN st[n]? >>= f) st) W Q := h
      cases e1 : st[n]? with
      | none => rw [e1] at h2; exact (show False from h2).elim
      | some nd =>
        rw [e1] at h2
        cases nd with
        | nl ds => exact (show False from h2).elim
        | ni c fs =>
          obtain ⟨O', hn⟩ := s.nr.get e1 e
          cases hn with
          | ni h1 h3 h4 h5 => exact ⟨c, _, _, _, _, _, _, rfl, h1, h3, fun x z => List.mem_of_mem_take z, h2⟩
        | nd kvs => exact (show False from h2).elim
        | nk c fs =>
          obtain ⟨O', hn⟩ := s.nr.get e1 e
          cases hn with
          | nk t h1 h3 h4 h5 hz => exact ⟨c, _, _, _, _, _, _, rfl, h1, h3, fun x z => List.mem_of_mem_take z, h2⟩
  | _ => exact (show False from h).elim
theorem FDs.get {w : Wd} {H : Hp} : ∀ {xs : List (Nat × D)} {vs : List V} {O : List Addr} {j : Nat} {x : Nat × D}, FDs G w H xs vs O → xs[j]? = some x → ∃ v O', vs[j]? = some v ∧ VR G w H x.1 O' x.2 v
  | _, _, _, _, _, .nil, e => by simp at e
  | _, _, _, 0, _, .cons _ h _, e => by simp at e; subst e; exact ⟨_, _, rfl, h⟩
  | _, _, _, j + 1, _, .cons _ _ hs, e => by
    obtain ⟨v, O', e1, h⟩ := FDs.get (j := j) hs (by simpa using e)
    exact ⟨v, O', by simpa using e1, h⟩
theorem FDs.getO {w : Wd} {H : Hp} : ∀ {xs : List (Nat × D)} {vs : List V} {O : List Addr} {j : Nat} {x : Nat × D}, FDs G w H xs vs O → xs[j]? = some x → ∃ v O', vs[j]? = some v ∧ (∀ a ∈ O', a ∈ O) ∧ VR G w H x.1 O' x.2 v
  | _, _, _, _, _, .nil, e => by simp at e
  | _, _, _, 0, _, .cons _ h _, e => by simp at e; subst e; exact ⟨_, _, rfl, fun a z => List.mem_append_left _ z, h⟩
  | _, _, _, j + 1, _, .cons _ _ hs, e => by
    obtain ⟨v, O', e1, hO, h⟩ := FDs.getO (j := j) hs (by simpa using e)
    exact ⟨v, O', by simpa using e1, fun a z => List.mem_append_right _ (hO a z), h⟩
theorem FDs.len {w : Wd} {H : Hp} : ∀ {xs : List (Nat × D)} {vs : List V} {O : List Addr}, FDs G w H xs vs O → xs.length = vs.length
  | _, _, _, .nil => rfl
  | _, _, _, .cons _ _ hs => by simp [FDs.len hs]
/-- a field's value -/
theorem inst_fld {w wc : Wd} {H Hc : Hp} {Os : List (List Addr)} {o : D} {v : V} {st : Sto} {c j : Nat} {W : XK} {Q : VK} {C : Addr} {fs : List Str} {f : Str} (hcl : G.cl c = some (C, fs)) (hnd : fs.Nodup) (hf : fs[j]? = some f) (fr : FR G wc Hc o v) (pc : Po w H wc Hc) (s : St G wc Hc st)
    (h : Out G (KR G Os) w H (fldD c o j st) W Q) : ∃ a dx us u, v = .ref a ∧ Hc a = some (.ins C dx us) ∧ us.lookup f = some u ∧ Q u Hc := by
  cases o with
  | ins c' ds =>
    cases fr with
    | ins h1 h2 h3 h4 h5 =>
      unfold fldD at h
      dsimp only at h
      by_cases ec : c' = c
      · rw [if_pos ec] at h
        subst ec
        rw [hcl] at h3
        obtain ⟨rfl, rfl⟩ := Prod.mk.inj (Option.some.inj h3)
        obtain ⟨d, e1, h⟩ := Out.ofO (o := ds[j]?) h
        obtain ⟨u, e2, hu⟩ := h5.get e1
        exact ⟨_, _, _, u, rfl, h2, zip_get hnd hf e2, Out.fin (Rel := KR G Os) h pc s hu⟩
      · rw [if_neg ec] at h
        exact h.elim
  | ref n =>
    cases fr with
    | ref e =>
      have h2 : Out G (KR G Os) w H (fldN c j st[n]? st) W Q := h
      cases e1 : st[n]? with
      | none => rw [e1] at h2; exact (show False from h2).elim
      | some nd =>
        rw [e1] at h2
        cases nd with
        | nl ds => exact (show False from h2).elim
        | ni c' xs =>
          simp only [fldN] at h2
          by_cases ec : c' = c
          · rw [if_pos ec] at h2
            subst ec
            obtain ⟨x, e2, h2⟩ := Out.ofO (o := xs[j]?) h2
            obtain ⟨O', hn⟩ := s.nr.get e1 e
            cases hn with
            | ni h1 h3 h4 h5 =>
              rw [hcl] at h3
              obtain ⟨rfl, rfl⟩ := Prod.mk.inj (Option.some.inj h3)
              obtain ⟨u, O2, e3, hu⟩ := h5.get e2
              have hj : j < xs.length := (List.getElem?_eq_some_iff.mp e2).1
              have e4 : (fs.take xs.length)[j]? = some f := by rw [List.getElem?_take_of_lt hj]; exact hf
              refine ⟨_, _, _, u, rfl, h1, zip_get (hnd.sublist (List.take_sublist _ _)) e4 e3, ?_⟩
              unfold fldV at h2
              by_cases c2 : x.1 = 0 ∨ isC x.2 = false
              · rw [if_pos c2] at h2
                refine Out.fin (Rel := KR G Os) h2 pc s ?_
                show FR G wc Hc x.2 u
                rcases c2 with c2 | c2
                · rw [c2] at hu; exact hu.fr0
                · exact hu.ncf c2
              · rw [if_neg c2] at h2
                exact (show False from h2).elim
          · rw [if_neg ec] at h2
            exact (show False from h2).elim
        | nd kvs => exact (show False from h2).elim
        | nk c' xs =>
          simp only [fldN] at h2
          by_cases ec : c' = c
          · rw [if_pos ec] at h2
            subst ec
            obtain ⟨x, e2, h2⟩ := Out.ofO (o := xs[j]?) h2
            obtain ⟨O', hn⟩ := s.nr.get e1 e
            cases hn with
            | nk t h1 h3 h4 h5 hz =>
              rw [hcl] at h3
              obtain ⟨rfl, rfl⟩ := Prod.mk.inj (Option.some.inj h3)
              obtain ⟨u, O2, e3, hO2, hu⟩ := h5.getO e2
              have hj : j < xs.length := (List.getElem?_eq_some_iff.mp e2).1
              have e4 : (fs.take xs.length)[j]? = some f := by rw [List.getElem?_take_of_lt hj]; exact hf
              refine ⟨_, _, _, u, rfl, h1, zip_get (hnd.sublist (List.take_sublist _ _)) e4 e3, ?_⟩
              unfold fldVL at h2
              by_cases c2 : x.1 = 0 ∨ isC x.2 = false
              · rw [if_pos c2] at h2
                refine Out.fin (Rel := KR G Os) h2 pc s ?_
                show FR G wc Hc x.2 u
                rcases c2 with c2 | c2
                · rw [c2] at hu; exact hu.fr0.unf'
                · exact (hu.ncf c2).unf'
              · rw [if_neg c2] at h2
                by_cases c3 : x.1 = 1
                · rw [if_pos c3] at h2
                  rw [c3] at hu
                  obtain ⟨b, hl, hb⟩ := hu.toLV (by
                    cases q : isC x.2 with
                    | true => rfl
                    | false => exact absurd (.inr q) c2)
                  exact Out.fin (Rel := KR G Os) h2 pc s ⟨[b], hl, fun b' hb' => by
                    obtain rfl : b' = b := by simpa using hb'
                    exact ⟨⟨_, _, t, .inl (hO2 _ hb)⟩, hz _ (hO2 _ hb)⟩⟩
                · rw [if_neg c3] at h2
                  exact (show False from h2).elim
          · rw [if_neg ec] at h2
            exact (show False from h2).elim
  | _ => exact (show False from h).elim
theorem de_fld {pa : Expr} {a : E} {c j : Nat} {C : Addr} {fs : List Str} {f : Str} (hK : X.K = G.K) (hcl : G.cl c = some (C, fs)) (hnd : fs.Nodup) (hf : fs[j]? = some f) (hC : Cls X.K C) (hno : NoAttr X.K C f) (ha : DE X G P pa a)
    (hb : attributeBase pa f X.env (eval pa X.env) = eval pa X.env := by rfl) : DE X G P (.Attribute pa f pos) (.fld c a j) := fun W tk =>
  imE (pe_fld (ha W tk) hb) fun σ H Q hh => by
    obtain ⟨w, ρ, Os, st, g, ot⟩ := hh
    rw [evE] at ot
    refine tE_bind g (Po.refl _ _) ot fun x st1 v w1 H1 g1 p1 k1 o1 => ?_
    obtain ⟨c1, o2⟩ := o1.keep1
    obtain ⟨O, own, fr⟩ := k1.sees c1
    obtain ⟨b, dx, us, u, e1, e2, e3, q⟩ := inst_fld hcl hnd hf (fr O fun _ z => z) (p1.frz fun a z => (own a z).1) (g1.s.frz own) o2
    exact ⟨b, C, dx, us, u, e1, e2, hC, hno, e3, q⟩
/-! methods -/
theorem de_meth {pa : Expr} {a : E} {c f : Nat} {C : Addr} {fs : List Str} {m : Str} {apos : Pos} {pl : Sem Bool} (hcl : G.cl c = some (C, fs)) (hC : Cls X.K C) (hmf : m ∉ fs) (hf : Mt P.nm X G k C m (n + 1) (P.fn f)) (hr : Room k X.A) (ha : DE X G P pa a) (h : DA X G P (p :: ps) es) (hn : es.length = n)
    (hst : starEach (p :: ps) X.env = (false, eval p X.env) :: starEach ps X.env := by rfl) (hpl : (backTo pos (starEach ps X.env)).any (·.1) = false := by rfl)
    (ht : eval (.Call (.Attribute pa m apos) (p :: ps) [] pos) X.env = (do
      let ov ← eval pa X.env
      standAt apos.atName
      let (f, first) ← holding [ov] (getMethod ov m pl)
      callWith pos f first (backTo pos (starEach (p :: ps) X.env)) (backToKw pos (keywordEach [] X.env))) := by rfl) :
    DE X G P (.Call (.Attribute pa m apos) (p :: ps) [] pos) (.meth c f a es) := fun W tk => by
  obtain ⟨fa, fd, pns, hm, hb, F⟩ := hf.go
  refine imE (pe_methS2 (E := WE W) (ha W tk) hC hm F hr hb (tk.pass) (h W tk) hst hpl ht) fun σ H Q hh => ?_
  obtain ⟨w, ρ, Os, st, g, ot⟩ := hh
  rw [evE] at ot
  refine tE_bind g (Po.refl _ _) ot fun x st1 v w1 H1 g1 p1 k1 o1 => ?_
  obtain ⟨c1, o2⟩ := o1.keep1
  obtain ⟨O, own, fr⟩ := k1.sees c1
  have fr1 := fr O fun _ z => z
  have s1 := g1.s.frz own
  have pc1 := p1.frz fun a z => (own a z).1
  obtain ⟨c', b, C', dx, fs', us, vs, e1, e2, e3, e4, o3⟩ := inst_cls fr1 s1 o2
  by_cases ec : c' = c
  · rw [if_pos ec] at o3
    subst ec
    rw [hcl] at e3
    obtain ⟨rfl, rfl⟩ := Prod.mk.inj (Option.some.inj e3)
    refine ⟨b, dx, _, e1, e2, zip_no fun z => hmf (e4 _ z), ?_⟩
    have g1' : Gd G (w1.frz O) H1 σ ρ Os st1 := ⟨s1, ?_, g1.nd, g1.ap⟩
    · refine tA_bind g1' pc1 o3 fun xs st2 vs w2 H2 len g2 p2 k2 o4 => ?_
      obtain ⟨c2, o5⟩ := o4.args
      obtain ⟨O2, own2, fr2⟩ := k2.seesA c2
      have q := fr1.po s1.wf p2
      exact call_fin o5 ((pc1.trans p2).frz fun a z => pc1.th a (own2 a z).1) (g2.s.frz own2) (.cons q.frz (fr2 O2 fun _ z => z)) (by rw [List.length_cons, ← k2.length, len, hn])
    · exact g1.sl.apart fun a z z' => (g.sl.there a z).1 (own a z').1
  · rw [if_neg ec] at o3
    exact o3.elim
theorem de_meth0 {pa : Expr} {a : E} {c f : Nat} {C : Addr} {fs : List Str} {m : Str} {apos : Pos} {pl : Sem Bool} (hcl : G.cl c = some (C, fs)) (hC : Cls X.K C) (hmf : m ∉ fs) (hf : Mt P.nm X G k C m 1 (P.fn f)) (hr : Room k X.A) (ha : DE X G P pa a)
    (ht : eval (.Call (.Attribute pa m apos) [] [] pos) X.env = (do
      let ov ← eval pa X.env
      standAt apos.atName
      let (f, first) ← holding [ov] (getMethod ov m pl)
      callWith pos f first (backTo pos (starEach [] X.env)) (backToKw pos (keywordEach [] X.env))) := by rfl) :
    DE X G P (.Call (.Attribute pa m apos) [] [] pos) (.meth c f a []) := fun W tk => by
  obtain ⟨fa, fd, pns, hm, hb, F⟩ := hf.go
  refine imE (pe_methS20 (E := WE W) (ha W tk) hC hm F hr hb (tk.pass) ht) fun σ H Q hh => ?_
  obtain ⟨w, ρ, Os, st, g, ot⟩ := hh
  rw [evE] at ot
  refine tE_bind g (Po.refl _ _) ot fun x st1 v w1 H1 g1 p1 k1 o1 => ?_
  obtain ⟨c1, o2⟩ := o1.keep1
  obtain ⟨O, own, fr⟩ := k1.sees c1
  have fr1 := fr O fun _ z => z
  have s1 := g1.s.frz own
  have pc1 := p1.frz fun a z => (own a z).1
  obtain ⟨c', b, C', dx, fs', us, vs, e1, e2, e3, e4, o3⟩ := inst_cls fr1 s1 o2
  by_cases ec : c' = c
  · rw [if_pos ec] at o3
    subst ec
    rw [hcl] at e3
    obtain ⟨rfl, rfl⟩ := Prod.mk.inj (Option.some.inj e3)
    refine ⟨b, dx, _, e1, e2, zip_no fun z => hmf (e4 _ z), ?_⟩
    rw [evEs_nil] at o3
    show spF G 1 (P.fn f) [v] H1 Q (WE W σ)
    exact call_fin (ds := [x.2]) o3 pc1 s1 (.cons fr1 .nil) rfl
  · rw [if_neg ec] at o3
    exact o3.elim
end
end PV

/-! part PV10 -/
/-! PV10: instances made. -/
namespace PV
open PySem L2 LamX NdefX

section
variable {G : Gx} {w : Wd} {H : Hp}
def Wd.less (w : Wd) (ρ : List Addr) (O : List Addr) : Wd := ⟨w.F, ρ, O, fun a => if a ∈ ρ then w.T a else none⟩
mutual
theorem FR.less {ρ O : List Addr} : ∀ {d : D} {v : V}, FR G w H d v → isR d = false → FR G (w.less ρ O) H d v
  | _, _, .non, _ => .non
  | _, _, .bl b, _ => .bl b
  | _, _, .int i, _ => .int i
  | _, _, .str x, _ => .str x
  | _, _, .tup h hs, _ => .tup h (FRs.less hs)
  | _, _, .lst h hs, _ => .lst h (FRs.less hs)
  | _, _, .ins hf h hc hl hs, _ => .ins hf h hc hl (FRs.less hs)
  | _, _, .dic hf h hs, _ => .dic hf h (FRs.less hs)
  | _, _, .dit hf h hs, _ => .dit hf h (FRs.less hs)
  | _, _, .tx hf hd h hs, _ => .tx hf hd h (FRs.less hs)
theorem FRs.less {ρ O : List Addr} : ∀ {ds : List D} {vs : List V}, FRs G w H ds vs → FRs G (w.less ρ O) H ds vs
  | _, _, .nil => .nil
  | _, _, .cons n h hs => .cons n (FR.less h n) (FRs.less hs)
end
mutual
theorem VR.less {ρ O : List Addr} (hρ : ∀ a ∈ ρ, a ∈ w.ρ) : ∀ {l : Nat} {Oo : List Addr} {d : D} {v : V}, VR G w H l Oo d v → isR d = false → VR G (w.less ρ O) H l Oo d v
  | _, _, _, _, .zero h, n => .zero (h.less n)
  | _, _, _, _, .nc hc h, n => .nc hc (h.less n)
  | _, _, _, _, .lst h hf hn hs, _ => .lst h hf (fun z => hn (hρ _ z)) (VRs.less hρ hs)
  | _, _, _, _, .dic h hf hn hs, _ => .dic h hf (fun z => hn (hρ _ z)) (VRs.less hρ hs)
  | _, _, _, _, .dit h hf hn hs, _ => .dit h hf (fun z => hn (hρ _ z)) (VRs.less hρ hs)
theorem VRs.less {ρ O : List Addr} (hρ : ∀ a ∈ ρ, a ∈ w.ρ) : ∀ {l : Nat} {Oo : List Addr} {ds : List D} {vs : List V}, VRs G w H l Oo ds vs → VRs G (w.less ρ O) H l Oo ds vs
  | _, _, _, _, .nil => .nil
  | _, _, _, _, .cons n h hs => .cons n (VR.less hρ h n) (VRs.less hρ hs)
end
theorem FDs.less {ρ O : List Addr} (hρ : ∀ a ∈ ρ, a ∈ w.ρ) : ∀ {xs : List (Nat × D)} {vs : List V} {Oo : List Addr}, FDs G w H xs vs Oo → FDs G (w.less ρ O) H xs vs Oo
  | _, _, _, .nil => .nil
  | _, _, _, .cons n h hs => .cons n (h.less hρ n) (FDs.less hρ hs)
theorem NRs.less {ρ O : List Addr} (hρ : ∀ a ∈ ρ, a ∈ w.ρ) : ∀ {st : Sto} {as Oo : List Addr}, (∀ a ∈ as, a ∈ ρ) → NRs G w H st as Oo → NRs G (w.less ρ O) H st as Oo
  | _, _, _, _, .nil => .nil
  | _, _, _, ha, .cons (.nl h hs) r => .cons (.nl h hs.less) (NRs.less hρ (fun a z => ha a (by simp [z])) r)
  | _, _, _, ha, .cons (.ni h hc hl hs) r => .cons (.ni h hc hl (hs.less hρ)) (NRs.less hρ (fun a z => ha a (by simp [z])) r)
  | _, _, _, ha, .cons (.nk t h hc hl hs hz) r => .cons (.nk (by show (if _ then _ else _) = _; rw [if_pos (ha _ (by simp))]; exact t) h hc hl (hs.less hρ) hz) (NRs.less hρ (fun a z => ha a (by simp [z])) r)
  | _, _, _, ha, .cons (.nd t h hs) r => .cons (.nd (by show (if _ then _ else _) = _; rw [if_pos (ha _ (by simp))]; exact t) h hs.less) (NRs.less hρ (fun a z => ha a (by simp [z])) r)
theorem NRs.split : ∀ {as bs : List Addr} {st : Sto} {O : List Addr}, NRs G w H st (as ++ bs) O → ∃ O1 O2, O = O1 ++ O2 ∧ NRs G w H (st.take as.length) as O1 ∧ NRs G w H (st.drop as.length) bs O2
  | [], bs, st, O, h => ⟨[], O, rfl, by simpa using NRs.nil, by simpa using h⟩
  | a :: as, bs, st, O, h => by
    cases h with
    | cons h r =>
      obtain ⟨O1, O2, e, h1, h2⟩ := NRs.split r
      exact ⟨_ ++ O1, O2, by rw [e, List.append_assoc], .cons h h1, h2⟩
/-- the store's last objects are forgotten -/
theorem St.less {st : Sto} {as bs : List Addr} (s : St G w H st) (e : w.ρ = as ++ bs) : ∃ O1 O2, w.O = O1 ++ O2 ∧ St G (w.less as O1) H (st.take as.length) ∧ NRs G w H (st.drop as.length) bs O2 := by
  have r := s.nr
  rw [e] at r
  obtain ⟨O1, O2, eO, h1, h2⟩ := r.split
  have hρ : ∀ a ∈ as, a ∈ w.ρ := fun a z => by rw [e]; exact List.mem_append_left _ z
  have hO : ∀ a ∈ O1, a ∈ w.O := fun a z => by rw [eO]; exact List.mem_append_left _ z
  refine ⟨O1, O2, eO, ⟨⟨s.wf.fa, fun a z => ⟨fun z' => (s.wf.fr a z).1 (hρ a z'), fun z' => (s.wf.fr a z).2 (hO a z')⟩, ?_, fun a z => ⟨(s.wf.ra a (hρ a z)).1, fun z' => (s.wf.ra a (hρ a z)).2 (hO a z')⟩, fun a z => s.wf.oa a (hO a z), s.wf.tb⟩, h1.less hρ (fun a z => z), ?_, ?_⟩, h2⟩
  · have := s.wf.nd
    rw [e] at this
    exact (List.nodup_append.mp this).1
  · have := s.nd
    rw [eO] at this
    exact (List.nodup_append.mp this).1
  · intro a L h
    have h : (if a ∈ as then w.T a else none) = some L := h
    by_cases c : a ∈ as
    · rw [if_pos c] at h
      obtain ⟨n, nd', e1, e2, e3⟩ := s.lk a L h
      have hn : n < as.length := by
        rcases Nat.lt_or_ge n as.length with z | z
        · exact z
        · exfalso
          rw [e, List.getElem?_append_right z] at e1
          have nd := s.wf.nd
          rw [e] at nd
          exact (List.nodup_append.mp nd).2.2 a c a (List.mem_of_getElem? e1) rfl
      refine ⟨n, nd', ?_, by rw [List.getElem?_take_of_lt hn]; exact e2, e3⟩
      rw [e, List.getElem?_append_left hn] at e1
      exact e1
    · rw [if_neg c] at h; cases h
theorem St.tρ {st : Sto} (s : St G w H st) : ∀ a L, w.T a = some L → a ∈ w.ρ := fun a L h => by
  obtain ⟨n, _, e, _⟩ := s.lk a L h
  exact List.mem_of_getElem? e
theorem made_flds : ∀ {xs : List (Nat × D)} {n : Nat} {es : List D} {vs : List V} {O : List Addr}, madeO n xs = some es → FDs G w H xs vs O → FRs G w H es vs ∧ O = [] ∧ xs.length = n
  | [], n, es, vs, O, h, f => by
    unfold madeO at h
    by_cases c : n = 0
    · rw [if_pos c] at h
      cases h
      cases f
      exact ⟨.nil, rfl, c.symm⟩
    · rw [if_neg c] at h
      cases h
  | (l, d) :: r, n, es, vs, O, h, f => by
    cases n with
    | zero => simp [madeO] at h
    | succ n =>
      unfold madeO at h
      dsimp only at h
      by_cases c : l = 0 ∨ isC d = false
      · rw [if_pos c] at h
        cases e : madeO n r with
        | none => rw [e] at h; cases h
        | some fs =>
          rw [e] at h
          cases h
          cases f with
          | cons nr hv hs =>
            obtain ⟨a, b, c'⟩ := made_flds e hs
            subst b
            rcases c with c | c
            · subst c
              cases hv with
              | zero q => exact ⟨.cons nr q a, rfl, by simp [c']⟩
              | nc _ q => exact ⟨.cons nr q a, rfl, by simp [c']⟩
            · cases hv with
              | zero q => exact ⟨.cons nr q a, rfl, by simp [c']⟩
              | nc _ q => exact ⟨.cons nr q a, rfl, by simp [c']⟩
              | lst _ _ _ _ => cases c
              | dic _ _ _ _ => cases c
              | dit _ _ _ _ => cases c
      · rw [if_neg c] at h
        cases h
end
section
variable {X : Cx} {G : Gx} {P : Pr} {pos : Pos} {k n : Nat} {x : Str} {q : Pos} {p : Expr} {ps : List Expr} {es : List E}
section
variable {w w' : Wd} {H H' : Hp}
mutual
theorem VR.ext (wf : Wf G w H) (p : Po w H w' H') (kp : ∀ a o, H a = some o → H' a = some o) : ∀ {l : Nat} {O : List Addr} {d : D} {v : V}, VR G w H l O d v → VR G w' H' l O d v
  | _, _, _, _, .zero h => .zero (h.po wf p)
  | _, _, _, _, .nc hc h => .nc hc (h.po wf p)
  | _, _, _, _, .lst h hf hn hs => .lst (kp _ _ h) (fun z => (p.fn _ z).elim hf fun e => e.no h (fun _ z => by cases z) fun _ z => by cases z) (p.out (by rw [h]; simp) hn) (VRs.ext wf p kp hs)
  | _, _, _, _, .dic h hf hn hs => .dic (kp _ _ h) (fun z => (p.fn _ z).elim hf fun e => e.no h (fun _ z => by cases z) fun _ z => by cases z) (p.out (by rw [h]; simp) hn) (VRs.ext wf p kp hs)
  | _, _, _, _, .dit h hf hn hs => .dit (kp _ _ h) (fun z => (p.fn _ z).elim hf fun e => e.no h (fun _ z => by cases z) fun _ z => by cases z) (p.out (by rw [h]; simp) hn) (VRs.ext wf p kp hs)
theorem VRs.ext (wf : Wf G w H) (p : Po w H w' H') (kp : ∀ a o, H a = some o → H' a = some o) : ∀ {l : Nat} {O : List Addr} {ds : List D} {vs : List V}, VRs G w H l O ds vs → VRs G w' H' l O ds vs
  | _, _, _, _, .nil => .nil
  | _, _, _, _, .cons n h hs => .cons n (VR.ext wf p kp h) (VRs.ext wf p kp hs)
end
theorem FDs.ext (wf : Wf G w H) (p : Po w H w' H') (kp : ∀ a o, H a = some o → H' a = some o) : ∀ {xs : List (Nat × D)} {vs : List V} {O : List Addr}, FDs G w H xs vs O → FDs G w' H' xs vs O
  | _, _, _, .nil => .nil
  | _, _, _, .cons n h hs => .cons n (h.ext wf p kp) (FDs.ext wf p kp hs)
theorem NR.ext (wf : Wf G w H) (p : Po w H w' H') (kp : ∀ a o, H a = some o → H' a = some o) {nd : Nd} {a : Addr} {O : List Addr} (h : NR G w H nd a O) : NR G w' H' nd a O := by
  cases h with
  | nl h hs => exact .nl (kp _ _ h) (hs.po wf p)
  | ni h hc hl hs => exact .ni (kp _ _ h) hc hl (hs.ext wf p kp)
  | nk t h hc hl hs hz => exact .nk (p.kt _ _ t).1 (kp _ _ h) hc hl (hs.ext wf.u p.unf fun a o e => by
      obtain ⟨u, e1, rfl⟩ := unf_of e
      exact unf_some (kp a u e1)) fun b hb => let ⟨o, e, n⟩ := hz b hb; ⟨o, kp b o e, n⟩
  | nd t h hs => exact .nd (p.kt _ _ t).1 (kp _ _ h) (hs.po wf p)
theorem NRs.ext (wf : Wf G w H) (p : Po w H w' H') (kp : ∀ a o, H a = some o → H' a = some o) : ∀ {st : Sto} {as O : List Addr}, NRs G w H st as O → NRs G w' H' st as O
  | _, _, _, .nil => .nil
  | _, _, _, .cons h r => .cons (h.ext wf p kp) (NRs.ext wf p kp r)
theorem NRs.snoc {nd : Nd} {a : Addr} {O2 : List Addr} (h2 : NR G w H nd a O2) : ∀ {st : Sto} {as O : List Addr}, NRs G w H st as O → NRs G w H (st ++ [nd]) (as ++ [a]) (O ++ O2)
  | _, _, _, .nil => by simpa using NRs.cons h2 .nil
  | _, _, _, .cons h r => by
    rw [List.append_assoc]
    exact .cons h (NRs.snoc h2 r)
end
/-- a new object's place joins the store -/
theorem St.more {w : Wd} {H : Hp} {st : Sto} {C dx a : Addr} {c : Nat} {fs : List Str} (s : St G w H st) (hcl : G.cl c = some (C, fs)) (ha : H a = none) (hd : H dx = none) (hne : dx ≠ a) :
    St G { w with ρ := w.ρ ++ [a] } (upd (upd H dx (.own a)) a (.ins C dx [])) (st ++ [.ni c []]) ∧ Po w H { w with ρ := w.ρ ++ [a] } (upd (upd H dx (.own a)) a (.ins C dx [])) := by
  have s1 := s.new (o := .own a) hd
  have ha1 : upd H dx (.own a) a = none := by rw [upd_ne (Ne.symm hne)]; exact ha
  have s2 := s1.new (o := .ins C dx []) ha1
  have kp : ∀ b o, H b = some o → upd (upd H dx (.own a)) a (.ins C dx []) b = some o := fun b o e => up ha1 (up hd e)
  have po : Po w H { w with ρ := w.ρ ++ [a] } (upd (upd H dx (.own a)) a (.ins C dx [])) := by
    have q := (newPo (w := w) (o := .own a) hd).new (o := .ins C dx []) ha1
    exact ⟨q.fm, q.fn, ⟨[a], rfl, by simpa using ha⟩, q.on, q.kn, q.kf, q.th, q.kt, q.nu⟩
  have f := s.wf.free ha
  refine ⟨⟨⟨s2.wf.fa, fun b z => ⟨fun z' => ?_, (s2.wf.fr b z).2⟩, ?_, fun b z => ?_, s2.wf.oa, s2.wf.tb⟩, ?_, s.nd, fun b L h => ?_⟩, po⟩
  · rcases List.mem_append.mp z' with z' | z'
    · exact (s2.wf.fr b z).1 z'
    · obtain rfl : b = a := by simpa using z'
      exact f.1 z
  · refine List.nodup_append.mpr ⟨s.wf.nd, by simp, fun b hb c hc => ?_⟩
    obtain rfl : c = a := by simpa using hc
    rintro rfl
    exact f.2.1 hb
  · rcases List.mem_append.mp z with z | z
    · exact s2.wf.ra b z
    · obtain rfl : b = a := by simpa using z
      exact ⟨⟨_, upd_same, fun ps e => by cases e⟩, f.2.2⟩
  · have q := (s.nr.ext s.wf po kp).snoc (nd := .ni c []) (a := a) (O2 := []) (.ni (fs := fs) (vs := []) (by simpa using upd_same) hcl (Nat.zero_le _) .nil)
    simpa using q
  · obtain ⟨n, nd', e1, e2, e3⟩ := s.lk b L h
    refine ⟨n, nd', ?_, ?_, e3⟩
    · show (w.ρ ++ [a])[n]? = some b
      rw [List.getElem?_append_left (List.getElem?_eq_some_iff.mp e1).1]; exact e1
    · rw [List.getElem?_append_left (List.getElem?_eq_some_iff.mp e2).1]; exact e2
theorem Po.less {w w1 : Wd} {H H1 : Hp} {O : List Addr} (p : Po w H w1 H1) {bs : List Addr} (e : w1.ρ = w.ρ ++ bs) (hO : ∀ a ∈ O, a ∈ w1.O) (hT : ∀ a L, w.T a = some L → a ∈ w.ρ) : Po w H (w1.less w.ρ O) H1 :=
  ⟨p.fm, p.fn, ⟨[], by simp [Wd.less], by simp⟩, fun a z => p.on a (hO a z), p.kn, p.kf, p.th, fun a L h => by
    obtain ⟨t, k, l⟩ := p.kt a L h
    refine ⟨?_, k, l⟩
    show (if a ∈ w.ρ then w1.T a else none) = some L
    rw [if_pos (hT a L h)]; exact t, p.nu⟩
/-- what __init__ leaves -/
theorem made_fin {w w0 : Wd} {H H0 : Hp} {Os : List (List Addr)} {c : Nat} {C dx a : Addr} {fs : List Str} {m : List D → M D} {ds : List D} {vs : List V} {st : Sto} {W : XK} {Q : VK} (hcl : G.cl c = some (C, fs))
    (o : Out G (KR G Os) w H ((newI c fs.length m ds >>= fun d => pure (.fz, d) : M KD) st) W Q) (pc : Po w H w0 H0) (s : St G w0 H0 st) (fa : FAs G w0 H0 ds vs) (hn : vs.length = n) (ha : H0 a = none) (hd : H0 dx = none) (hne : dx ≠ a) :
    spF G (n + 1) m (.ref a :: vs) (upd (upd H0 dx (.own a)) a (.ins C dx [])) (fun v H2 => v = .non ∧ Q (.ref a) H2) W := by
  obtain ⟨s1, po⟩ := s.more hcl ha hd hne
  have hlen : st.length = w0.ρ.length := s.nr.len
  have fa1 : ∀ {ds : List D} {vs : List V}, FAs G w0 H0 ds vs → FAs G { w0 with ρ := w0.ρ ++ [a] } (upd (upd H0 dx (.own a)) a (.ins C dx [])) ds vs := by
    intro ds
    induction ds with
    | nil => intro vs h; cases h; exact .nil
    | cons d ds ih =>
      intro vs h
      cases h with
      | cons h hs => exact .cons (h.po s.wf po) (ih hs)
  have self : FR G { w0 with ρ := w0.ρ ++ [a] } (upd (upd H0 dx (.own a)) a (.ins C dx [])) (.ref st.length) (.ref a) := .ref (by
    show (w0.ρ ++ [a])[st.length]? = some a
    rw [hlen, List.getElem?_append_right (Nat.le_refl _)]; simp)
  refine ⟨by simp [hn], _, _, .ref st.length :: ds, s1, .cons self (fa1 fa), ?_⟩
  have o' : Out G (KR G Os) w H (match m (.ref st.length :: ds) (st ++ [.ni c []]) with
      | .ok .non s' => if s'.length = st.length + 1 then (match s'[st.length]? with
        | some (.ni c' xs) => if c' = c then (match madeO fs.length xs with
          | some es => .ok (.fz, .ins c es) s'.dropLast
          | none => .no) else .no
        | _ => .no) else .no
      | .ex e p s' => if plainX p ∧ st.length ≤ s'.length then .ex e p (s'.take st.length) else .no
      | _ => .no) W Q := by
    have e : (newI c fs.length m ds >>= fun d => pure (.fz, d) : M KD) = M.bind (newI c fs.length m ds) (fun d => M.pure (.fz, d)) := rfl
    rw [e] at o
    unfold M.bind newI at o
    revert o
    cases m (.ref st.length :: ds) (st ++ [.ni c []]) with
    | no => exact fun o => o
    | ex e p s' =>
      dsimp only
      by_cases q : plainX p = true ∧ st.length ≤ s'.length
      · rw [if_pos q, if_pos q]; exact fun o => o
      · rw [if_neg q]; exact fun o => o.elim
    | ok d s' =>
      cases d with
      | non =>
        dsimp only
        by_cases q : s'.length = st.length + 1
        · rw [if_pos q, if_pos q]
          cases s'[st.length]? with
          | none => exact fun o => o.elim
          | some nd =>
            cases nd with
            | nl _ => exact fun o => o.elim
            | nk _ _ => exact fun o => o.elim
            | nd _ => exact fun o => o.elim
            | ni c' xs =>
              dsimp only
              by_cases q2 : c' = c
              · rw [if_pos q2, if_pos q2]
                cases madeO fs.length xs with
                | none => exact fun o => o.elim
                | some es => exact fun o => o
              · rw [if_neg q2]; exact fun o => o.elim
        · rw [if_neg q]; exact fun o => o.elim
      | _ => exact fun o => o.elim
  revert o'
  cases m (.ref st.length :: ds) (st ++ [.ni c []]) with
  | no => exact fun o => o
  | ex e p s' =>
    intro o' d w' H' p' s' x'
    dsimp only at o'
    rename_i s2
    by_cases q : plainX p = true ∧ st.length ≤ s2.length
    · rw [if_pos q] at o'
      have pt := po.trans p'
      obtain ⟨more, em, nm⟩ := p'.sp
      have em' : w'.ρ = w0.ρ ++ ([a] ++ more) := by rw [em]; simp
      obtain ⟨O1, O2, eO, sl, _⟩ := s'.less em'
      have pl : Po w0 H0 (w'.less w0.ρ O1) H' := pt.less em' (fun b z => by rw [eO]; exact List.mem_append_left _ z) s.tρ
      refine o' d (w'.less w0.ρ O1) H' (pc.trans pl) (by rw [hlen]; exact sl) ?_
      rcases x' with x' | ⟨dd, v, e1, e2, e3⟩
      · exact .inl x'
      · refine .inr ⟨dd, v, e1, e2, e3.less ?_⟩
        cases p with
        | ref n => exact absurd q.1 (by simp [plainX])
        | _ => rfl
    · rw [if_neg q] at o'
      exact o'.elim
  | ok d s2 =>
    intro o' v w' H' p' s' r
    cases d with
    | non =>
      cases r
      refine ⟨rfl, ?_⟩
      dsimp only at o'
      by_cases q : s2.length = st.length + 1
      · rw [if_pos q] at o'
        have pt := po.trans p'
        obtain ⟨more, em, nm⟩ := p'.sp
        have em' : w'.ρ = w0.ρ ++ ([a] ++ more) := by rw [em]; simp
        have l2 : s2.length = w'.ρ.length := s'.nr.len
        have m0 : more = [] := by
          rw [em', q, hlen] at l2
          simp at l2
          exact l2
        subst m0
        cases e : s2[st.length]? with
        | none => rw [e] at o'; exact o'.elim
        | some nd =>
          rw [e] at o'
          cases nd with
          | nl _ => exact o'.elim
          | nk _ _ => exact o'.elim
          | nd _ => exact o'.elim
          | ni c' xs =>
            dsimp only at o'
            by_cases q2 : c' = c
            · rw [if_pos q2] at o'
              subst q2
              cases e3 : madeO fs.length xs with
              | none => rw [e3] at o'; exact o'.elim
              | some es =>
                rw [e3] at o'
                obtain ⟨O1, O2, eO, sl, sr⟩ := s'.less em'
                have pl : Po w0 H0 (w'.less w0.ρ O1) H' := pt.less em' (fun b z => by rw [eO]; exact List.mem_append_left _ z) s.tρ
                have e4 : s2.drop w0.ρ.length = [.ni c' xs] := by
                  rw [← hlen]
                  refine List.ext_getElem? fun i => ?_
                  rw [List.getElem?_drop]
                  cases i with
                  | zero => simpa using e
                  | succ i => simp; omega
                rw [e4] at sr
                cases sr with
                | cons hnr hnil =>
                  cases hnr with
                  | ni h1 h2 h3 h4 =>
                    rw [hcl] at h2
                    obtain ⟨rfl, rfl⟩ := Prod.mk.inj (Option.some.inj h2)
                    obtain ⟨f1, f2, f3⟩ := made_flds e3 h4
                    subst f2
                    rw [f3, List.take_length] at h1
                    -- the object is frozen from now on
                    have ow : Own (w'.less w0.ρ O1) H' H0 [a] := fun b z => by
                      obtain rfl : b = a := by simpa using z
                      have hra : b ∈ w'.ρ := by rw [em']; simp
                      refine ⟨ha, ⟨?_, fun z' => (s'.wf.ra b hra).2 (by rw [eO]; exact List.mem_append_left _ z')⟩, _, h1, fun ps e => by cases e⟩
                      intro z'
                      have nd := s'.wf.nd
                      rw [em'] at nd
                      exact (List.nodup_append.mp nd).2.2 b z' b (by simp) rfl
                    have dl : s2.dropLast = s2.take w0.ρ.length := by rw [List.dropLast_eq_take, q, hlen]; simp
                    refine o' (.ref a) ((w'.less w0.ρ O1).frz [a]) H' ((pc.trans pl).frz fun b z => pc.th b (ow b z).1) (by rw [dl]; exact sl.frz ow) ?_
                    exact FR.ins (.inr (by simp)) h1 hcl (by rw [← f3]; exact h4.len) f1.less.frz
            · rw [if_neg q2] at o'
              exact o'.elim
      · rw [if_neg q] at o'
        exact o'.elim
    | _ => exact o'.elim
/-- C(e, ..) of a class whose objects don't change -/
theorem de_new {c : Nat} {ini : List D → M D} (hf : Nw P.nm X G k x c n ini) (hP : ∀ C fs, G.cl c = some (C, fs) → P.new c = newI c fs.length ini) (hr : Room (k + 1) X.A) (hg : Gl X x) (h : DA X G P (p :: ps) es) (hn : es.length = n)
    (hdb : (x == ("__debug__" : Str)) = false := by decide) (he : starEach (p :: ps) X.env = (false, eval p X.env) :: starEach ps X.env := by rfl) (hpl : (backTo pos (starEach ps X.env)).any (·.1) = false := by rfl) : DE X G P (.Call (.Name x q) (p :: ps) [] pos) (.make c es) := fun W tk => by
  obtain ⟨C, fs, fa, fd, pns, hm, hcl, M, hb, F⟩ := hf.go
  refine imE (pe_makeS (E := WE W) M F hr hg hm hb (tk.pass) (h W tk) hdb he hpl) fun σ H Q hh => ?_
  obtain ⟨w, ρ, Os, st, g, ot⟩ := hh
  rw [evE] at ot
  refine tA_bind g (Po.refl _ _) ot fun xs st1 vs w1 H1 len g1 p1 k1 o1 => ?_
  obtain ⟨c1, o2⟩ := o1.args
  obtain ⟨O, own, fr⟩ := k1.seesA c1
  rw [hP C fs hcl] at o2
  intro a dx ha hd hne
  exact made_fin hcl o2 (p1.frz fun a z => (own a z).1) (g1.s.frz own) (fr O fun _ z => z) (by rw [← k1.length, len]; exact hn) ha hd hne
end
end PV

/-! part PV11 -/
/-! PV11: a write at a place of one's own; slots set; targets. -/
namespace PV
open PySem L2 LamX NdefX

section
variable {G : Gx} {w : Wd} {H H' : Hp}
/-- all but the lists at D stays -/
structure Mv (w : Wd) (H H' : Hp) (D : Addr) : Prop where
  f : ¬ w.F D
  ρ : D ∉ w.ρ
  O : D ∉ w.O
  keep : ∀ a, a ≠ D → H' a = H a
theorem FT.mv {D a : Addr} {vs : List V} (m : Mv w H H' D) (h : FT G w.F H a vs) : FT G w.F H' a vs :=
  h.elim (fun h => .inl ⟨h.1, by have q := h.2; unfold Rt at q ⊢; rw [m.keep a fun z => m.f (z ▸ h.1)]; exact q⟩) .inr
mutual
theorem FR.mv {D : Addr} (m : Mv w H H' D) : ∀ {d : PV.D} {v : V}, FR G w H d v → FR G w H' d v
  | _, _, .non => .non
  | _, _, .bl b => .bl b
  | _, _, .int i => .int i
  | _, _, .str x => .str x
  | _, _, .tup h hs => .tup (h.mv m) (FRs.mv m hs)
  | _, _, .lst h hs => .lst ⟨h.1, by rw [m.keep _ fun z => m.f (z ▸ h.1)]; exact h.2⟩ (FRs.mv m hs)
  | _, _, .ins hf h hc hl hs => .ins hf (by rw [m.keep _ fun z => m.f (z ▸ hf)]; exact h) hc hl (FRs.mv m hs)
  | _, _, .dic hf h hs => .dic hf (by unfold Rd at h ⊢; rw [m.keep _ fun z => m.f (z ▸ hf)]; exact h) (FRs.mv m hs)
  | _, _, .dit hf h hs => .dit hf (by unfold Rd at h ⊢; rw [m.keep _ fun z => m.f (z ▸ hf)]; exact h) (FRs.mv m hs)
  | _, _, .ref h => .ref h
  | _, _, .tx hf hd h hs => .tx hf hd (by rw [m.keep _ fun z => m.f (z ▸ hf)]; exact h) (FRs.mv m hs)
theorem FRs.mv {D : Addr} (m : Mv w H H' D) : ∀ {ds : List PV.D} {vs : List V}, FRs G w H ds vs → FRs G w H' ds vs
  | _, _, .nil => .nil
  | _, _, .cons n h hs => .cons n (FR.mv m h) (FRs.mv m hs)
end
mutual
theorem VR.mv {D : Addr} (m : Mv w H H' D) : ∀ {l : Nat} {O : List Addr} {d : PV.D} {v : V}, VR G w H l O d v → D ∉ O → VR G w H' l O d v
  | _, _, _, _, .zero h, _ => .zero (h.mv m)
  | _, _, _, _, .nc hc h, _ => .nc hc (h.mv m)
  | _, _, _, _, .lst h hf hn hs, hO => .lst (by rw [m.keep _ fun z => hO (by simp [z])]; exact h) hf hn (VRs.mv m hs fun z => hO (by simp [z]))
  | _, _, _, _, .dic h hf hn hs, hO => .dic (by rw [m.keep _ fun z => hO (by simp [z])]; exact h) hf hn (VRs.mv m hs fun z => hO (by simp [z]))
  | _, _, _, _, .dit h hf hn hs, hO => .dit (by rw [m.keep _ fun z => hO (by simp [z])]; exact h) hf hn (VRs.mv m hs fun z => hO (by simp [z]))
theorem VRs.mv {D : Addr} (m : Mv w H H' D) : ∀ {l : Nat} {O : List Addr} {ds : List PV.D} {vs : List V}, VRs G w H l O ds vs → D ∉ O → VRs G w H' l O ds vs
  | _, _, _, _, .nil, _ => .nil
  | _, _, _, _, .cons n h hs, hO => .cons n (VR.mv m h fun z => hO (by simp [z])) (VRs.mv m hs fun z => hO (by simp [z]))
end
theorem FDs.mv {D : Addr} (m : Mv w H H' D) : ∀ {xs : List (Nat × PV.D)} {vs : List V} {O : List Addr}, FDs G w H xs vs O → D ∉ O → FDs G w H' xs vs O
  | _, _, _, .nil, _ => .nil
  | _, _, _, .cons n h hs, hO => .cons n (h.mv m fun z => hO (by simp [z])) (FDs.mv m hs fun z => hO (by simp [z]))
theorem Mv.u {D : Addr} (m : Mv w H H' D) : Mv w (PV.unf H) (PV.unf H') D := ⟨m.f, m.ρ, m.O, fun a c => by unfold PV.unf; rw [m.keep a c]⟩
theorem NRs.mv {D : Addr} (m : Mv w H H' D) : ∀ {st : Sto} {as O : List Addr}, NRs G w H st as O → D ∉ as → D ∉ O → NRs G w H' st as O
  | _, _, _, .nil, _, _ => .nil
  | _, _, _, .cons (.nl h hs) r, ha, hO => .cons (.nl (by rw [m.keep _ fun z => ha (by simp [z])]; exact h) (hs.mv m)) (NRs.mv m r (fun z => ha (by simp [z])) fun z => hO (by simp [z]))
  | _, _, _, .cons (.ni h hc hl hs) r, ha, hO => .cons (.ni (by rw [m.keep _ fun z => ha (by simp [z])]; exact h) hc hl (hs.mv m fun z => hO (by simp [z]))) (NRs.mv m r (fun z => ha (by simp [z])) fun z => hO (by simp [z]))
  | _, _, _, .cons (.nk t h hc hl hs hz) r, ha, hO => .cons (.nk t (by rw [m.keep _ fun z => ha (by simp [z])]; exact h) hc hl (hs.mv m.u fun z => hO (by simp [z])) fun b hb => let ⟨o, e, n⟩ := hz b hb; ⟨o, by rw [m.keep b fun z => hO (by subst z; simp [hb])]; exact e, n⟩) (NRs.mv m r (fun z => ha (by simp [z])) fun z => hO (by simp [z]))
  | _, _, _, .cons (.nd t h hs) r, ha, hO => .cons (.nd t (by rw [m.keep _ fun z => ha (by simp [z])]; exact h) (hs.mv m)) (NRs.mv m r (fun z => ha (by simp [z])) fun z => hO (by simp [z]))
theorem SL.mv {D : Addr} (m : Mv w H H' D) : ∀ {σ : L2.St} {ρ : Env} {Os : List (List Addr)}, SL G w H σ ρ Os → D ∉ Os.flatten → SL G w H' σ ρ Os
  | _, _, _, .nil, _ => .nil
  | _, _, _, .no h, ha => .no (SL.mv m h (by simpa using ha))
  | _, _, _, .so hv h, ha => .so (hv.mv m fun z => ha (by rw [List.flatten_cons]; exact List.mem_append_left _ z)) (SL.mv m h fun z => ha (by rw [List.flatten_cons]; exact List.mem_append_right _ z))
theorem codeO_lst {c : Addr} {q : Str} {xs : List V} : HO.lst xs ≠ CodeO c q := fun z => by
  unfold CodeO at z
  cases z
theorem tabsN_mv {T : List NTab} {D : Addr} {xs ys : List V} (hD : H D = some (.lst xs)) (t : TabsN T H) : TabsN T (upd H D (.lst ys)) := fun p hp => by
  obtain ⟨ps, h1, h2, h3⟩ := t p hp
  refine ⟨ps, by rw [upd_ne (fun z => by rw [z, hD] at h1; cases h1)]; exact h1, h2, fun pos cv hc => ?_⟩
  obtain ⟨c, e1, e2⟩ := h3 pos cv hc
  exact ⟨c, e1, by rw [upd_ne (fun z => by rw [z, hD] at e2; exact codeO_lst (Option.some.inj e2))]; exact e2⟩
theorem some_mv {D : Addr} {xs ys : List V} {a : Addr} (hD : H D = some (.lst xs)) (h : ∃ o, H a = some o ∧ ∀ ps, o ≠ .tbl ps) : ∃ o, upd H D (.lst ys) a = some o ∧ ∀ ps, o ≠ .tbl ps := by
  by_cases c : a = D
  · subst c
    exact ⟨_, upd_same, fun ps e => by cases e⟩
  · rw [upd_ne c]; exact h
theorem St.mv {st : Sto} {D : Addr} {xs ys : List V} (s : St G w H st) (hD : H D = some (.lst xs)) (m : Mv w H (upd H D (.lst ys)) D) : St G w (upd H D (.lst ys)) st :=
  ⟨⟨fun a z => some_mv hD (s.wf.fa a z), s.wf.fr, s.wf.nd, fun a z => ⟨some_mv hD (s.wf.ra a z).1, (s.wf.ra a z).2⟩, fun a z => some_mv hD (s.wf.oa a z), tabsN_mv hD s.wf.tb⟩, s.nr.mv m m.ρ m.O, s.nd, s.lk⟩
theorem Mv.of {D : Addr} {xs : List V} (f : ¬ w.F D) (r : D ∉ w.ρ) (o : D ∉ w.O) : Mv w H (upd H D (.lst xs)) D := ⟨f, r, o, fun a c => upd_ne c⟩
theorem Po.mv {w0 : Wd} {H0 : Hp} {D : Addr} {u o : HO} (p : Po w0 H0 w H) (n : H0 D = none) (hD : H D = some u) : Po w0 H0 w (upd H D o) :=
  ⟨p.fm, p.fn, p.sp, p.on, fun a u h1 hf h2 h3 h4 => by
    rw [upd_ne (fun z => by rw [z, n] at h1; cases h1)]; exact p.kn a u h1 hf h2 h3 h4, fun a u h1 hf h2 h3 h4 => by
    rw [upd_ne (fun z => by rw [z, n] at h1; cases h1)]; exact p.kf a u h1 hf h2 h3 h4, fun a z => p.th a (by
    unfold upd at z
    split at z
    · cases z
    · exact z), fun a L h => by
    obtain ⟨t, k, l⟩ := p.kt a L h
    refine ⟨t, fun o e nt => ?_, fun b hb o e nt => ?_⟩
    · rw [upd_ne (fun z => by rw [z, n] at e; cases e)]; exact k o e nt
    · rw [upd_ne (fun z => by rw [z, n] at e; cases e)]; exact l b hb o e nt, fun a z => by
    by_cases c : a = D
    · subst c; exact NT.none n
    · exact p.nu a (by unfold NT at z ⊢; rwa [upd_ne c] at z)⟩
/-! slots -/
theorem SL.len : ∀ {σ : L2.St} {ρ : Env} {Os : List (List Addr)}, SL G w H σ ρ Os → σ.length = ρ.length ∧ Os.length = ρ.length
  | _, _, _, .nil => ⟨rfl, rfl⟩
  | _, _, _, .no h => ⟨by simp [(SL.len h).1], by simp [(SL.len h).2]⟩
  | _, _, _, .so _ h => ⟨by simp [(SL.len h).1], by simp [(SL.len h).2]⟩
theorem SL.set {l : Nat} {d : D} {v : V} {O : List Addr} (hv : VR G w H l O d v) : ∀ {σ : L2.St} {ρ : Env} {Os : List (List Addr)} (i : Nat), SL G w H σ ρ Os → SL G w H (σ.set i (some v)) (ρ.set i (some (l, d))) (Os.set i O)
  | _, _, _, _, .nil => .nil
  | _, _, _, 0, .no h => .so hv h
  | _, _, _, 0, .so _ h => .so hv h
  | _, _, _, i + 1, .no h => .no (SL.set hv i h)
  | _, _, _, i + 1, .so hu h => .so hu (SL.set hv i h)
theorem SL.wipe1 : ∀ {σ : L2.St} {ρ : Env} {Os : List (List Addr)} (i : Nat), SL G w H σ ρ Os → SL G w H (σ.set i none) (ρ.set i none) (Os.set i [])
  | _, _, _, _, .nil => .nil
  | _, _, _, 0, .no h => .no h
  | _, _, _, 0, .so _ h => .no h
  | _, _, _, i + 1, .no h => .no (SL.wipe1 i h)
  | _, _, _, i + 1, .so hu h => .so hu (SL.wipe1 i h)
theorem mem_setO {O : List Addr} {a : Addr} : ∀ {Os : List (List Addr)} {i : Nat}, a ∈ (Os.set i O).flatten → a ∈ O ∨ a ∈ Os.flatten
  | [], _, h => by simp at h
  | P :: Os, 0, h => by
    simp only [List.set_cons_zero, List.flatten_cons, List.mem_append] at h ⊢
    exact h.elim .inl fun z => .inr (.inr z)
  | P :: Os, i + 1, h => by
    simp only [List.set_cons_succ, List.flatten_cons, List.mem_append] at h ⊢
    rcases h with h | h
    · exact .inr (.inl h)
    · exact (mem_setO h).elim .inl fun z => .inr (.inr z)
theorem nodup_setO {O : List Addr} (hO : O.Nodup) : ∀ {Os : List (List Addr)} {i : Nat}, Os.flatten.Nodup → (∀ a ∈ O, a ∉ Os.flatten) → (Os.set i O).flatten.Nodup
  | [], _, h, _ => by simpa using h
  | P :: Os, 0, h, hd => by
    rw [List.flatten_cons, List.nodup_append] at h
    simp only [List.set_cons_zero, List.flatten_cons]
    rw [List.nodup_append]
    exact ⟨hO, h.2.1, fun a z b z' e => hd a z (by rw [List.flatten_cons, e]; exact List.mem_append_right _ z')⟩
  | P :: Os, i + 1, h, hd => by
    rw [List.flatten_cons, List.nodup_append] at h
    simp only [List.set_cons_succ, List.flatten_cons]
    rw [List.nodup_append]
    refine ⟨h.1, nodup_setO hO h.2.1 fun a z z' => hd a z (by rw [List.flatten_cons]; exact List.mem_append_right _ z'), fun a z b z' e => ?_⟩
    rcases mem_setO z' with q | q
    · exact hd b q (by rw [List.flatten_cons, ← e]; exact List.mem_append_left _ z)
    · exact h.2.2 a z b q e
theorem Gd.set {σ : L2.St} {ρ : Env} {Os : List (List Addr)} {st : Sto} {l : Nat} {d : D} {v : V} {O : List Addr} (g : Gd G w H σ ρ Os st) (i : Nat) (hv : VR G w H l O d v) (hO : O.Nodup) (hd : ∀ a ∈ O, a ∉ Os.flatten) (ho : ∀ a ∈ O, a ∉ w.O) :
    Gd G w H (σ.set i (some v)) (ρ.set i (some (l, d))) (Os.set i O) st :=
  ⟨g.s, g.sl.set hv i, nodup_setO hO g.nd hd, fun a z => (mem_setO z).elim (ho a) (g.ap a)⟩
theorem Gd.set0 {σ : L2.St} {ρ : Env} {Os : List (List Addr)} {st : Sto} {d : D} {v : V} (g : Gd G w H σ ρ Os st) (i : Nat) (hv : FR G w H d v) :
    Gd G w H (σ.set i (some v)) (ρ.set i (some (0, d))) (Os.set i []) st := g.set i (.zero hv) List.nodup_nil (fun a z => nomatch z) (fun a z => nomatch z)
theorem Gd.wipe1 {σ : L2.St} {ρ : Env} {Os : List (List Addr)} {st : Sto} (g : Gd G w H σ ρ Os st) (i : Nat) : Gd G w H (σ.set i none) (ρ.set i none) (Os.set i []) st :=
  ⟨g.s, g.sl.wipe1 i, nodup_setO List.nodup_nil g.nd (fun a z => nomatch z), fun a z => (mem_setO z).elim (fun z => nomatch z) (g.ap a)⟩
/-! targets -/
/-- off some slots two are the same -/
structure Sm {α : Type} (vs : List Nat) (a b : List α) : Prop where
  len : a.length = b.length
  at' : ∀ i, i ∉ vs → a[i]? = b[i]?
theorem Sm.refl {α : Type} {vs : List Nat} {a : List α} : Sm vs a a := ⟨rfl, fun _ _ => rfl⟩
theorem Sm.trans {α : Type} {vs us : List Nat} {a b c : List α} (h : Sm vs a b) (k : Sm us b c) : Sm (vs ++ us) a c := ⟨h.len.trans k.len, fun i z => (h.at' i fun q => z (by simp [q])).trans (k.at' i fun q => z (by simp [q]))⟩
theorem Sm.set {α : Type} {i : Nat} {a : List α} {x : α} : Sm [i] a (a.set i x) := ⟨by simp, fun j z => by rw [List.getElem?_set_ne (fun e => z (by simp [e]))]⟩
/-- a target is bound to a datum -/
def tG (G : Gx) (T : Tg) : TG := fun v σ H K => ∃ w ρ Os st d ρ1, Gd G w H σ ρ Os st ∧ FR G w H d v ∧ bindT T d ρ = some ρ1 ∧ ∀ σ1 Os1, Gd G w H σ1 ρ1 Os1 st → Sm (tgV T) σ σ1 → (∀ a ∈ Os1.flatten, a ∈ Os.flatten) → K σ1 H
def tGs (G : Gx) (T : List Tg) : TGs := fun vs σ H K => ∃ w ρ Os st ds ρ1, Gd G w H σ ρ Os st ∧ FRs G w H ds vs ∧ bindTs T ds ρ = some ρ1 ∧ ∀ σ1 Os1, Gd G w H σ1 ρ1 Os1 st → Sm (tgVs T) σ σ1 → (∀ a ∈ Os1.flatten, a ∈ Os.flatten) → K σ1 H
def DG (X : Cx) (G : Gx) (p : Expr) (T : Tg) : Prop := PG X p (tG G T)
def DGs (X : Cx) (G : Gx) (ps : List Expr) (T : List Tg) : Prop := PGs X ps (tGs G T)
end
section
variable {X : Cx} {G : Gx} {pos : Pos}
theorem imG {p : Expr} {t t' : TG} (h : PG X p t) (i : ∀ v σ H K, t' v σ H K → t v σ H K) : PG X p t' := ⟨fun pins s σ H v u Q I r q => h.run pins s σ H v u Q I r (i v σ H Q q)⟩
theorem imGs {p : List Expr} {t t' : TGs} (h : PGs X p t) (i : ∀ v σ H K, t' v σ H K → t v σ H K) : PGs X p t' := ⟨fun pins s σ H v u Q I r q => h.run pins s σ H v u Q I r (i v σ H Q q)⟩
theorem orG {p : Expr} {t t' : TG} (h : PG X p t) (k : PG X p t') : PG X p (fun v σ H K => t v σ H K ∨ t' v σ H K) := ⟨fun pins s σ H v u Q I r q => q.elim (h.run pins s σ H v u Q I r) (k.run pins s σ H v u Q I r)⟩
theorem dg_nm {i : Nat} {x : Str} (hN : X.N.Nodup) (hi : X.N[i]? = some x) (hx : Loc X.env.scope x) (hf : X.fn x = true ∨ X.env.scope.names.lookup x = some .local) : DG X G (.Name x pos) (.nm i) :=
  imG (pg_name hN hi hx hf) fun v σ H K ⟨w, ρ, Os, st, d, ρ1, g, fr, e, k⟩ => by
    unfold bindT at e
    cases e
    exact k _ _ (g.set0 i fr) (by unfold tgV; exact Sm.set) fun a z => (mem_setO z).elim (fun z => nomatch z) id
theorem dgs_nil : DGs X G [] [] := imGs pgs_nil fun v σ H K ⟨w, ρ, Os, st, ds, ρ1, g, fr, e, k⟩ => by
  cases fr with
  | nil =>
    unfold bindTs at e
    cases e
    exact ⟨rfl, k _ _ g Sm.refl fun _ z => z⟩
  | cons _ _ _ => unfold bindTs at e; cases e
theorem dgs_cons {p : Expr} {ps : List Expr} {t : Tg} {ts : List Tg} (h : DG X G p t) (hs : DGs X G ps ts) (he : (assignEach (p :: ps) X.env).map (·.2) = assign p X.env :: (assignEach ps X.env).map (·.2) := by rfl) : DGs X G (p :: ps) (t :: ts) :=
  imGs (pgs_cons h hs he) fun v σ H K ⟨w, ρ, Os, st, ds, ρ1, g, fr, e, k⟩ => by
    cases fr with
    | nil => unfold bindTs at e; cases e
    | @cons d ds u us n h hs =>
      unfold bindTs at e
      cases e1 : bindT t d ρ with
      | none => rw [e1] at e; cases e
      | some ρ2 =>
        rw [e1] at e
        refine ⟨_, _, rfl, w, ρ, Os, st, _, ρ2, g, h, e1, fun σ1 Os1 g1 s1 o1 => ?_⟩
        exact ⟨w, ρ2, Os1, st, _, ρ1, g1, hs, e, fun σ2 Os2 g2 s2 o2 => k σ2 Os2 g2 (by unfold tgVs; exact s1.trans s2) fun a z => o1 a (o2 a z)⟩
theorem bindTs_len : ∀ {ts : List Tg} {ds : List D} {ρ ρ1 : Env}, bindTs ts ds ρ = some ρ1 → ts.length = ds.length
  | [], [], _, _, _ => rfl
  | [], _ :: _, _, _, h => by unfold bindTs at h; cases h
  | _ :: _, [], _, _, h => by unfold bindTs at h; cases h
  | t :: ts, d :: ds, ρ, ρ1, h => by
    unfold bindTs at h
    cases e1 : bindT t d ρ with
    | none => rw [e1] at h; cases h
    | some ρ2 =>
      rw [e1] at h
      simp [bindTs_len (show bindTs ts ds ρ2 = some ρ1 from h)]
theorem dg_tp {ps : List Expr} {ts : List Tg} {j : Nat} (hK : X.K = G.K) (hc : X.calm = true) (h : DGs X G ps ts) (hn : (assignEach ps X.env).length = ts.length := by rfl) (hst : (assignEach ps X.env).findIdx? (·.1) = none := by rfl) : DG X G (.Tuple ps j pos) (.tp ts) :=
  imG (orG (pg_tup (n := ts.length) hc h hn hst) (pg_unl (n := ts.length) hc h hn hst)) fun v σ H K ⟨w, ρ, Os, st, d, ρ1, g, fr, e, k⟩ => by
    cases fr with
    | tup ha hs =>
      unfold bindT at e
      rw [hK]
      refine .inl ⟨_, _, rfl, ha.sqt, ?_, w, ρ, Os, st, _, ρ1, g, hs, e, fun σ1 Os1 g1 s1 o1 => k σ1 Os1 g1 (by unfold tgV; exact s1) o1⟩
      rw [← hs.length, bindTs_len e]
    | lst ha hs =>
      unfold bindT at e
      rw [hK]
      refine .inr ⟨_, _, rfl, .of ha.2, ?_, w, ρ, Os, st, _, ρ1, g, hs, e, fun σ1 Os1 g1 s1 o1 => k σ1 Os1 g1 (by unfold tgV; exact s1) o1⟩
      rw [← hs.length, bindTs_len e]
    | _ => unfold bindT at e; cases e
end
end PV

/-! part PV12 -/
/-! PV12: what a loop walks. -/
noncomputable section
namespace PV
open PySem L2 LamX NdefX

/-- the iterator J yields these data -/
structure Walk (G : Gx) (w1 : Wd) (H1 : Hp) (J : It) (ds : List D) : Prop where
  go : ∀ w H i, Po w1 H1 w H → i < ds.length → J.go i H
  stop : ∀ w H i, Po w1 H1 w H → ds.length ≤ i → J.stop i H
  yld : ∀ w H st i d x H', Po w1 H1 w H → St G w H st → ds[i]? = some d → J.yld i H x H' → ∃ w', Po w H w' H' ∧ St G w' H' st ∧ FR G w' H' d x
def IR (G : Gx) (w : Wd) (H H0 : Hp) (ds : List D) (J : It) : Prop := Walk G w H J ds ∧ ds.length ≤ sizeLine
theorem Walk.later {G : Gx} {w1 w2 : Wd} {H1 H2 : Hp} {J : It} {ds : List D} (h : Walk G w1 H1 J ds) (p : Po w1 H1 w2 H2) : Walk G w2 H2 J ds :=
  ⟨fun w H i q => h.go w H i (p.trans q), fun w H i q => h.stop w H i (p.trans q), fun w H st i d x H' q => h.yld w H st i d x H' (p.trans q)⟩
def evI (P : Pr) (ik : Ik) (src : List E) (ρ : Env) : M (List D) := evEs P src ρ >>= fun xs => itD ik xs
def tI (G : Gx) (P : Pr) (W : WX) (ik : Ik) (src : List E) : TI := fun σ H R => ∃ w ρ Os st, Gd G w H σ ρ Os st ∧ Out G (IR G) w H (evI P ik src ρ st) (WS W σ) R
def DI (X : Cx) (G : Gx) (P : Pr) (tg it : Expr) (ik : Ik) (src : List E) : Prop := ∀ W, TkM P.nm X W → PI X tg it (tI G P W ik src)
section
variable {G : Gx} {w : Wd} {H H0 : Hp} {Os : List (List Addr)}
/-- it stays, whatever expressions run -/
def Sy (w : Wd) (a : Addr) : Prop := (a ∉ w.ρ ∧ a ∉ w.O) ∨ TB w a
theorem Sy.keep {w' : Wd} {H' : Hp} {a : Addr} {o : HO} (n : Sy w a) (p : Po w H w' H') (h : H a = some o) (nt : ∀ ps, o ≠ .tbl ps) : Kp o (H' a) :=
  n.elim (fun n => p.keep a o h n.1 n.2 nt) fun t => (t.po p).2 o h nt
theorem itW_list {K : PySem.W.Frag} {a : Addr} {vs : List V} {ds : List D} (ha : H a = some (.lst vs)) (n1 : Sy w a) (s : Wf G w H) (fs : FRs G w H ds vs) : Walk G w H (Itl K a) ds := by
  have at' : ∀ {w' H'}, Po w H w' H' → H' a = some (.lst vs) := fun p => n1.keep p ha fun ps e => by cases e
  have hl := fs.length
  refine ⟨fun w' H' i p hi => ⟨vs, vs[i]'(by omega), .of (at' p), List.getElem?_eq_getElem _⟩, fun w' H' i p hi => ⟨vs, .of (at' p), by omega⟩, fun w' H' st i d x H2 p s' e y => ?_⟩
  obtain ⟨e2, y⟩ := y
  subst e2
  obtain ⟨v, ev, fv⟩ := (fs.po s p).get e
  have := y vs (.of (at' p))
  rw [ev] at this
  cases this
  exact ⟨w', Po.refl _ _, s', fv⟩
theorem itW_tup {a : Addr} {vs : List V} {ds : List D} (ha : FT G w.F H a vs) (s : Wf G w H) (fs : FRs G w H ds vs) : Walk G w H (Itt G.K a) ds := by
  have hl := fs.length
  refine ⟨fun w' H' i p hi => ⟨vs, vs[i]'(by omega), (ha.po s p).sqt, List.getElem?_eq_getElem _⟩, fun w' H' i p hi => ⟨vs, (ha.po s p).sqt, by omega⟩, fun w' H' st i d x H2 p s' e y => ?_⟩
  obtain ⟨e2, y⟩ := y
  subst e2
  obtain ⟨v, ev, fv⟩ := (fs.po s p).get e
  have := y vs (ha.po s p).sqt
  rw [ev] at this
  cases this
  exact ⟨w', Po.refl _ _, s', fv⟩
theorem itW_rng {lo : Int} {n : Nat} : Walk G w H (Itr lo n) ((rangeI lo n).map .int) := by
  have hl : ((rangeI lo n).map D.int).length = n := by simp [rangeI]
  refine ⟨fun w' H' i p hi => by rw [hl] at hi; exact hi, fun w' H' i p hi => by rw [hl] at hi; exact hi, fun w' H' st i d x H2 p s' e y => ?_⟩
  obtain ⟨e2, y⟩ := y
  subst e2 y
  have hi : i < n := by
    have := (List.getElem?_eq_some_iff.mp e).1
    rw [hl] at this; exact this
  have : d = .int (lo + i) := by
    simp [rangeI, hi] at e
    exact e.symm
  subst this
  exact ⟨w', Po.refl _ _, s', FR.int _⟩
/-- a pair just made -/
theorem new_pair {st : Sto} {T : Addr} {d e : D} {x y : V} (s : St G w H st) (hT : H T = none) (n1 : isR d = false) (n2 : isR e = false) (f1 : FR G w H d x) (f2 : FR G w H e y) :
    Po w H (w.frz [T]) (upd H T (.tup [x, y])) ∧ St G (w.frz [T]) (upd H T (.tup [x, y])) st ∧ FR G (w.frz [T]) (upd H T (.tup [x, y])) (.tup [d, e]) (.ref T) := by
  have p := (Po.refl w H).newF (o := .tup [x, y]) hT
  refine ⟨p, s.newF hT (fun ps e => by cases e), .tup (.inl ⟨.inr (by simp), .inl upd_same⟩) (.cons n1 (f1.po s.wf p) (.cons n2 (f2.po s.wf p) .nil))⟩
theorem FRs.noR : ∀ {ds : List D} {vs : List V} {i : Nat} {d : D}, FRs G w H ds vs → ds[i]? = some d → isR d = false
  | _, _, _, _, .nil, e => by simp at e
  | _, _, 0, _, .cons n _ _, e => by simp at e; subst e; exact n
  | _, _, i + 1, _, .cons _ _ hs, e => FRs.noR (i := i) hs (by simpa using e)
/-- a list that is walked -/
theorem KR.walk {k : Kd} {ds : List D} {v : V} (wf : Wf G w H) (ap : ∀ a ∈ Os.flatten, a ∉ w.O) (h : KR G Os w H H0 (k, .lst ds) v) (hk : viewB k = true) :
    ∃ O a vs, Own w H H0 O ∧ v = .ref a ∧ H a = some (.lst vs) ∧ (∀ O', Sy (w.frz O') a) ∧ ∀ O', (∀ a ∈ O, a ∈ O') → FRs G (w.frz O') H ds vs := by
  obtain ⟨O, a, vs, own, e, ha, f⟩ := h.items hk
  have fz : FR G w H (.lst ds) v → a ∉ w.ρ ∧ a ∉ w.O := fun q => by
    obtain ⟨a', vs', e', hf, _, _⟩ := q.lst_inv
    rw [e] at e'
    cases e'
    exact wf.fr a hf
  have vr : ∀ {l : Nat} {O : List Addr}, VR G w H l O (.lst ds) v → (∀ a ∈ O, a ∉ w.O) → a ∉ w.ρ ∧ a ∉ w.O := fun {l O} hv hn => by
    rcases hv.lst_inv with ⟨q, _⟩ | ⟨l', a', O', vs', _, e', eO, _, _, hr, _⟩
    · exact fz q
    · rw [e] at e'
      cases e'
      exact ⟨hr, hn a (by rw [eO]; simp)⟩
  have q : Sy w a := by
    cases k with
    | fz => exact .inl (fz h)
    | an => obtain ⟨O, hv, _, hn⟩ := h; exact .inl (vr (hv 0) fun a z => (hn a z).2)
    | fr l => obtain ⟨O, hv, _, hn⟩ := h; exact .inl (vr hv fun a z => (hn a z).2)
    | bo l => obtain ⟨O, hv, hn⟩ := h; exact .inl (vr hv fun a z => ap a (hn a z))
    | lk =>
      obtain ⟨O, hv, hn⟩ := h
      obtain ⟨a', vs', e', _, _, eO⟩ := hv.lk_lst
      rw [e] at e'
      cases e'
      exact .inr (hn a (by rw [eO]; simp)).1
  exact ⟨O, a, vs, own, e, ha, fun O' => q, f⟩
end
section
variable {X : Cx} {G : Gx} {P : Pr} {pos : Pos} {tg : Expr}
theorem imI {e : Expr} {t t' : TI} (h : PI X tg e t) (i : ∀ σ H R, t' σ H R → t σ H R) : PI X tg e t' := ⟨fun pins s σ H R I q => h.run pins s σ H R I (i σ H R q)⟩
theorem orI {e : Expr} {t t' : TI} (h : PI X tg e t) (k : PI X tg e t') : PI X tg e (fun σ H R => t σ H R ∨ t' σ H R) := ⟨fun pins s σ H R I q => q.elim (h.run pins s σ H R I) (k.run pins s σ H R I)⟩
/-- the state is well where a value has come -/
theorem pe_inv {e : Expr} {t : TE} (h : PE X e t) : PE X e (fun σ H Q => t σ H fun v H1 => (∃ pins s, Inv X pins σ H1 s) → Q v H1) :=
  ⟨fun pins s σ H Q I q => thn (h.run pins s σ H _ I q) fun v s1 ⟨x, H1, I1, r1, q1⟩ => ⟨x, H1, I1, r1, q1 ⟨pins, s1, I1⟩⟩⟩
theorem inv_list {pins : List (Addr × Obj)} {σ : L2.St} {H : Hp} {s : Shared} {a : Addr} {vs : List V} (I : Inv X pins σ H s) (h : H a = some (.lst vs)) : vs.length ≤ sizeLine := by
  obtain ⟨_, _, _, hz⟩ := I.list (xs := vs) (.of h)
  exact hz
theorem inv_tup {pins : List (Addr × Obj)} {σ : L2.St} {H : Hp} {s : Shared} {a : Addr} {vs : List V} (I : Inv X pins σ H s) (h : SqT X.K H a vs) : vs.length ≤ sizeLine := by
  obtain ⟨_, _, _, hz⟩ := I.tuple h
  exact hz
theorem evI_bind {P : Pr} {e : E} {ik : Ik} {ρ : Env} : evI P ik [e] ρ = evE P e ρ >>= fun x => itD ik [x] := by
  unfold evI
  rw [evEs_cons, evEs_nil, M.assoc]
  rfl
theorem Out.view {γ δ : Type} {w : Wd} {H : Hp} {Rel2 : Wd → Hp → Hp → γ → δ → Prop} {x : KD} {f : D → M γ} {st : Sto} {W : XK} {Q : δ → Hp → Prop} (h : Out G Rel2 w H ((PV.view x >>= f) st) W Q) : viewB x.1 = true ∧ Out G Rel2 w H (f x.2 st) W Q := by
  unfold PV.view at h
  cases e : viewB x.1 with
  | true => rw [e] at h; exact ⟨rfl, h⟩
  | false => rw [e] at h; exact h.elim
end
/-! a frozen dict is locked from the walk on -/
section
variable {G : Gx} {w : Wd} {H : Hp}
theorem tabsN_lk {T : List NTab} {D : Addr} {kvs : List (Key × V)} {ob : Obj} (hD : H D = some (.dK kvs)) (t : TabsN T H) : TabsN T (upd H D (.frz ob (.dK kvs))) := fun p hp => by
  obtain ⟨ps, h1, h2, h3⟩ := t p hp
  refine ⟨ps, by rw [upd_ne (fun z => by rw [z, hD] at h1; cases h1)]; exact h1, h2, fun pos cv hc => ?_⟩
  obtain ⟨c, e1, e2⟩ := h3 pos cv hc
  exact ⟨c, e1, by rw [upd_ne (fun z => by rw [z, hD] at e2; cases e2)]; exact e2⟩
theorem lk_ne {Pr : Addr → Prop} {a b : Addr} (h : ¬ Pr b) (h' : Pr a) : b ≠ a := fun z => by
  subst z
  exact h h'
theorem lk_ne2 {Pr : Addr → Prop} {a b : Addr} (h : Pr b) (h' : ¬ Pr a) : b ≠ a := fun z => by
  subst z
  exact h' h
theorem upd_id {H : Hp} {a : Addr} {o : HO} (h : H a = some o) : upd H a o = H := by
  funext b
  unfold upd
  split
  · rename_i e; rw [e, h]
  · rfl
theorem lock_po {a : Addr} {kvs : List (Key × V)} (hf : w.F a) (hT : ∀ b L, w.T b = some L → b ≠ a) (ha : H a = some (.dK kvs)) (ob : Obj) : Po w H w (upd H a (.frz ob (.dK kvs))) := by
  refine ⟨fun _ z => z, fun _ z => .inl z, ⟨[], by simp, by simp⟩, fun _ z => .inl z, fun b o e nf _ _ _ => ?_, fun b o e _ _ _ _ => ?_, fun b z => ?_, fun b L z => ?_, fun b n => NT.updP (fun _ z => by cases z) (fun _ z => by cases z) n⟩
  · rw [upd_ne (lk_ne nf hf)]; exact e
  · by_cases c : b = a
    · subst c
      rw [ha] at e
      cases e
      exact .inr ⟨ob, upd_same⟩
    · rw [upd_ne c]; exact Kp.eq e
  · by_cases c : b = a
    · subst c; rw [upd_same] at z; cases z
    · rw [upd_ne c] at z; exact z
  · have hh : ∀ b o, H b = some o → Kp o (upd H a (.frz ob (.dK kvs)) b) := fun b o e => by
      by_cases c : b = a
      · subst c
        rw [ha] at e
        cases e
        exact .inr ⟨ob, upd_same⟩
      · rw [upd_ne c]; exact Kp.eq e
    exact ⟨z, fun o e _ => by rw [upd_ne (hT b L z)]; exact e, fun c _ o e _ => hh c o e⟩
theorem lock_some {a b : Addr} {kvs : List (Key × V)} {ob : Obj} (h : ∃ o, H b = some o ∧ ∀ ps, o ≠ .tbl ps) : ∃ o, upd H a (.frz ob (.dK kvs)) b = some o ∧ ∀ ps, o ≠ .tbl ps := by
  by_cases c : b = a
  · subst c
    exact ⟨_, upd_same, fun ps e => by cases e⟩
  · rw [upd_ne c]; exact h
mutual
theorem VR.lock {a : Addr} {ks : List (Key × V)} (wf : Wf G w H) (hf : w.F a) (hT : ∀ b L, w.T b = some L → b ≠ a) (ha : H a = some (.dK ks)) (ob : Obj) : ∀ {l : Nat} {O : List Addr} {d : D} {v : V}, VR G w H l O d v → VR G w (upd H a (.frz ob (.dK ks))) l O d v
  | _, _, _, _, .zero h => .zero (h.po wf (lock_po hf hT ha ob))
  | _, _, _, _, .nc hc h => .nc hc (h.po wf (lock_po hf hT ha ob))
  | _, _, _, _, .lst h h1 h2 hs => .lst (by rw [upd_ne (lk_ne h1 hf)]; exact h) h1 h2 (VRs.lock wf hf hT ha ob hs)
  | _, _, _, _, .dic h h1 h2 hs => .dic (by rw [upd_ne (lk_ne h1 hf)]; exact h) h1 h2 (VRs.lock wf hf hT ha ob hs)
  | _, _, _, _, .dit h h1 h2 hs => .dit (by rw [upd_ne (lk_ne h1 hf)]; exact h) h1 h2 (VRs.lock wf hf hT ha ob hs)
theorem VRs.lock {a : Addr} {ks : List (Key × V)} (wf : Wf G w H) (hf : w.F a) (hT : ∀ b L, w.T b = some L → b ≠ a) (ha : H a = some (.dK ks)) (ob : Obj) : ∀ {l : Nat} {O : List Addr} {ds : List D} {vs : List V}, VRs G w H l O ds vs → VRs G w (upd H a (.frz ob (.dK ks))) l O ds vs
  | _, _, _, _, .nil => .nil
  | _, _, _, _, .cons n h hs => .cons n (VR.lock wf hf hT ha ob h) (VRs.lock wf hf hT ha ob hs)
end
theorem FDs.lock {a : Addr} {ks : List (Key × V)} (wf : Wf G w H) (hf : w.F a) (hT : ∀ b L, w.T b = some L → b ≠ a) (ha : H a = some (.dK ks)) (ob : Obj) : ∀ {xs : List (Nat × D)} {vs : List V} {O : List Addr}, FDs G w H xs vs O → FDs G w (upd H a (.frz ob (.dK ks))) xs vs O
  | _, _, _, .nil => .nil
  | _, _, _, .cons n h hs => .cons n (h.lock wf hf hT ha ob) (FDs.lock wf hf hT ha ob hs)
theorem NRs.lock {a : Addr} {ks : List (Key × V)} (wf : Wf G w H) (hf : w.F a) (hT : ∀ b L, w.T b = some L → b ≠ a) (ha : H a = some (.dK ks)) (ob : Obj) : ∀ {st : Sto} {as O : List Addr}, NRs G w H st as O → (∀ b ∈ as, b ∈ w.ρ) → NRs G w (upd H a (.frz ob (.dK ks))) st as O
  | _, _, _, .nil, _ => .nil
  | _, _, _, .cons (.nl h hs) r, hb => .cons (.nl (by rw [upd_ne (lk_ne2 (Pr := fun b => b ∈ w.ρ) (hb _ (by simp)) (wf.fr a hf).1)]; exact h) (hs.po wf (lock_po hf hT ha ob))) (NRs.lock wf hf hT ha ob r fun b z => hb b (by simp [z]))
  | _, _, _, .cons (.ni h hc hl hs) r, hb => .cons (.ni (by rw [upd_ne (lk_ne2 (Pr := fun b => b ∈ w.ρ) (hb _ (by simp)) (wf.fr a hf).1)]; exact h) hc hl (hs.lock wf hf hT ha ob)) (NRs.lock wf hf hT ha ob r fun b z => hb b (by simp [z]))
  | _, _, _, .cons (.nk t h hc hl hs hz) r, hb => .cons (.nk t (by rw [upd_ne (lk_ne2 (Pr := fun b => b ∈ w.ρ) (hb _ (by simp)) (wf.fr a hf).1)]; exact h) hc hl (by rw [unf_upd, show unfO (.frz ob (.dK ks)) = .dK ks from rfl, upd_id (H := PV.unf H) (o := .dK ks) (unf_some ha)]; exact hs) fun b hb => let ⟨o, e, n⟩ := hz b hb; ⟨o, by rw [upd_ne (fun z => by rw [z, ha] at e; exact n.1 _ (Option.some.inj e).symm)]; exact e, n⟩) (NRs.lock wf hf hT ha ob r fun b z => hb b (by simp [z]))
  | _, _, _, .cons (.nd t h hs) r, hb => .cons (.nd t (by rw [upd_ne (lk_ne2 (Pr := fun b => b ∈ w.ρ) (hb _ (by simp)) (wf.fr a hf).1)]; exact h) (hs.po wf (lock_po hf hT ha ob))) (NRs.lock wf hf hT ha ob r fun b z => hb b (by simp [z]))
theorem St.lT {a : Addr} {st : Sto} (s : St G w H st) (hf : w.F a) : ∀ b L, w.T b = some L → b ≠ a := fun b L h e => (s.wf.fr a hf).1 (e ▸ s.tρ b L h)
theorem St.lock {a : Addr} {ks : List (Key × V)} {st : Sto} (s : St G w H st) (hf : w.F a) (ha : H a = some (.dK ks)) (ob : Obj) : St G w (upd H a (.frz ob (.dK ks))) st :=
  ⟨⟨fun b z => lock_some (s.wf.fa b z), s.wf.fr, s.wf.nd, fun b z => ⟨lock_some (s.wf.ra b z).1, (s.wf.ra b z).2⟩, fun b z => lock_some (s.wf.oa b z), tabsN_lk ha s.wf.tb⟩, s.nr.lock s.wf hf (s.lT hf) ha ob fun _ z => z, s.nd, s.lk⟩
theorem zK_get {kvs : List (Ky × D)} {vs : List V} {i : Nat} {k : Ky} {x : V} (h : (zK kvs vs)[i]? = some (k, x)) : (kvs.map (·.1))[i]? = some k ∧ vs[i]? = some x := by
  have := List.getElem?_zip_eq_some.mp h
  exact this
theorem key_fr : ∀ k : Ky, FR G w H (keyD k) (kV k)
  | .inl i => FR.int i
  | .inr x => FR.str x
theorem key_nr : ∀ k : Ky, isR (keyD k) = false
  | .inl i => rfl
  | .inr x => rfl
theorem zK_len {kvs : List (Ky × D)} {vs : List V} (h : (kvs.map (·.2)).length = vs.length) : (zK kvs vs).length = kvs.length := by
  simp [zK] at h ⊢
  omega
theorem map_at {α β : Type} {f : α → β} {l : List α} {i : Nat} {b : β} (h : (l.map f)[i]? = some b) : ∃ a, l[i]? = some a ∧ f a = b := by
  rw [List.getElem?_map] at h
  cases e : l[i]? with
  | none => rw [e] at h; cases h
  | some a => rw [e] at h; exact ⟨a, rfl, Option.some.inj h⟩
/-- frozen, or lent -/
def Hd (w : Wd) (a : Addr) : Prop := w.F a ∨ TB w a
theorem Hd.keep {w' : Wd} {H' : Hp} {a : Addr} {o : HO} (n : Hd w a) (wf : Wf G w H) (p : Po w H w' H') (h : H a = some o) (nt : ∀ ps, o ≠ .tbl ps) : Kp o (H' a) :=
  n.elim (fun n => p.kf a o h n (wf.fr a n).1 (wf.fr a n).2 nt) fun t => (t.po p).2 o h nt
/-- the three walks of a locked dict -/
theorem itW_dk {a : Addr} {ob : Obj} {kvs : List (Ky × D)} {vs : List V} (hf : Hd w a) (ha : H a = some (.frz ob (.dK (zK kvs vs)))) (wf : Wf G w H) (fs : FRs G w H (kvs.map (·.2)) vs) :
    Walk G w H (Itk a ob (zK kvs vs)) (kvs.map fun p => keyD p.1) ∧ Walk G w H (Itd a ob (zK kvs vs)) (kvs.map (·.2)) ∧ Walk G w H (Iti a ob (zK kvs vs)) (kvs.map fun p => .tup [keyD p.1, p.2]) := by
  have at' : ∀ {w' H'}, Po w H w' H' → H' a = some (.frz ob (.dK (zK kvs vs))) := fun p => hf.keep wf p ha fun ps e => by cases e
  have hl := zK_len fs.length
  refine ⟨⟨fun w' H' i p hi => ⟨at' p, ?_⟩, fun w' H' i p hi => ⟨at' p, ?_⟩, fun w' H' st i d x H2 p s' e y => ?_⟩, ⟨fun w' H' i p hi => ⟨at' p, ?_⟩, fun w' H' i p hi => ⟨at' p, ?_⟩, fun w' H' st i d x H2 p s' e y => ?_⟩, ⟨fun w' H' i p hi => ⟨at' p, ?_⟩, fun w' H' i p hi => ⟨at' p, ?_⟩, fun w' H' st i d x H2 p s' e y => ?_⟩⟩
  · rw [List.length_map] at hi; omega
  · rw [List.length_map] at hi; omega
  · obtain ⟨e2, k, v, y, rfl⟩ := y
    subst e2
    obtain ⟨p0, e0, rfl⟩ := map_at e
    obtain ⟨p1, e1, e2⟩ := map_at (zK_get y).1
    rw [e0] at e1
    cases e1
    subst e2
    exact ⟨w', Po.refl _ _, s', key_fr _⟩
  · rw [List.length_map] at hi; omega
  · rw [List.length_map] at hi; omega
  · obtain ⟨e2, k, y⟩ := y
    subst e2
    obtain ⟨v, ev, fv⟩ := (fs.po wf p).get e
    rw [(zK_get y).2] at ev
    cases ev
    exact ⟨w', Po.refl _ _, s', fv⟩
  · rw [List.length_map] at hi; omega
  · rw [List.length_map] at hi; omega
  · obtain ⟨T, k, v, y, rfl, hT, rfl⟩ := y
    obtain ⟨p0, e0, rfl⟩ := map_at e
    have e3 : (kvs.map (·.2))[i]? = some p0.2 := by rw [List.getElem?_map, e0]; rfl
    obtain ⟨v', ev, fv⟩ := (fs.po wf p).get e3
    obtain ⟨p1, e1, e2⟩ := map_at (zK_get y).1
    rw [(zK_get y).2] at ev
    cases ev
    rw [e0] at e1
    cases e1
    subst e2
    obtain ⟨q1, q2, q3⟩ := new_pair s' hT (key_nr _) (fs.noR e3) (key_fr _) fv
    exact ⟨_, q1, q2, q3⟩
end
/-- a dict is locked where it has come -/
theorem pe_lkd {X : Cx} {e : Expr} {t : TE} (h : PE X e t) : PE X e (fun σ H Q => t σ H fun x H1 => Q x H1 ∨ ∃ d kvs, H1 d = some (.dK kvs) ∧ ∀ od, Q x (upd H1 d (.frz od (.dK kvs)))) :=
  ⟨fun pins s σ H Q I q => thn (h.run pins s σ H _ I q) fun v s1 ⟨x, H1, I1, r1, q1⟩ => by
    rcases q1 with q1 | ⟨d, kvs, hd, q1⟩
    · exact ⟨x, H1, I1, r1, q1⟩
    · obtain ⟨od, I2⟩ := I1.lock hd trivial
      exact ⟨x, _, I2, r1, q1 od⟩⟩
theorem inv_dic {X : Cx} {pins : List (Addr × Obj)} {σ : L2.St} {H : Hp} {s : Shared} {a : Addr} {kvs : List (Key × V)} (I : Inv X pins σ H s) (h : Rd H a (.dK kvs)) : kvs.length ≤ sizeLine := by
  rcases h with h | ⟨o, h⟩
  · exact (I.hok a _ h).1
  · exact (I.hok a _ h).2.1
/-- what a walk of a dict wants: the dict at v, locked; R of its iterator -/
theorem dic_walk {X : Cx} {G : Gx} {Os : List (List Addr)} {w w1 : Wd} {H H1 : Hp} {kx : Kd} {kvs : List (Ky × D)} {v : V} {pins : List (Addr × Obj)} {σ : L2.St} {s : Shared} {st1 : Sto} (I : Inv X pins σ H1 s) (p1 : Po w H w1 H1) (s1 : St G w1 H1 st1) (k1 : KR G Os w1 H1 H (kx, .dic kvs) v) (c1 : walkB kx = true) :
    ∃ a vs, v = .ref a ∧ kvs.length ≤ sizeLine ∧ (kvs.map (·.2)).length = vs.length ∧ ((∃ ob, H1 a = some (.frz ob (.dK (zK kvs vs))) ∧ ∃ w2, Po w H w2 H1 ∧ St G w2 H1 st1 ∧ Hd w2 a ∧ FRs G w2 H1 (kvs.map (·.2)) vs) ∨
      (H1 a = some (.dK (zK kvs vs)) ∧ ∀ ob, ∃ w2, Po w H w2 (upd H1 a (.frz ob (.dK (zK kvs vs)))) ∧ St G w2 (upd H1 a (.frz ob (.dK (zK kvs vs)))) st1 ∧ Hd w2 a ∧ FRs G w2 (upd H1 a (.frz ob (.dK (zK kvs vs)))) (kvs.map (·.2)) vs)) := by
  by_cases cl : kx = .lk
  · subst cl
    obtain ⟨O, hv, hO⟩ := k1
    obtain ⟨a, vs, e, hr, hs, ha⟩ := hv.lk_dic
    have hl := inv_dic I hr
    rw [zK_len hs.length] at hl
    refine ⟨a, vs, e, hl, hs.length, .inl ?_⟩
    obtain ⟨tb, o, eo, n1, _, _⟩ := hO a ha
    rcases hr with hr | ⟨ob, hr⟩
    · rw [hr] at eo
      exact absurd (Option.some.inj eo).symm (n1 _)
    · exact ⟨ob, hr, w1, p1, s1, .inr tb, hs⟩
  have c1 : keepB kx = true := by cases kx <;> first | rfl | exact c1 | exact absurd rfl cl
  obtain ⟨O, own, fr⟩ := k1.sees c1
  obtain ⟨a, vs, rfl, hf, hr, hs⟩ := (fr O fun _ z => z).dic_inv
  have p2 := p1.frz fun a z => (own a z).1
  have s2 := s1.frz own
  have hl := inv_dic I hr
  rw [zK_len hs.length] at hl
  refine ⟨a, vs, rfl, hl, hs.length, ?_⟩
  rcases hr with hr | ⟨ob, hr⟩
  · exact .inr ⟨hr, fun ob => ⟨_, p2.trans (lock_po hf (s2.lT hf) hr ob), s2.lock hf hr ob, .inl hf, hs.po s2.wf (lock_po hf (s2.lT hf) hr ob)⟩⟩
  · exact .inl ⟨ob, hr, _, p2, s2, .inl hf, hs⟩
section
variable {X : Cx} {G : Gx} {P : Pr} {pos apos cpos : Pos} {tg : Expr}
/-- a list, a tuple, a dict's keys -/
theorem di_seq {p : Expr} {e : E} (hK : X.K = G.K) (h : DE X G P p e) : DI X G P tg p .seq [e] := fun W tk =>
  imI (orI (orI (pi_list (pe_inv (h W tk))) (pi_tup (pe_inv (h W tk)))) (pi_keys (pe_lkd (pe_inv (h W tk))))) fun σ H R ⟨w, ρ, Os, st, g, ot⟩ => by
    rw [evI_bind] at ot
    rw [hK]
    by_cases c0 : ∃ x st1 kvs, evE P e ρ st = .ok x st1 ∧ x.2 = .dic kvs
    · refine .inr ⟨w, ρ, Os, st, g, Out.bindq (Po.refl _ _) ot fun x st1 v w1 H1 q p1 s1 k1 o1 => ?_⟩
      rintro ⟨pins, s, I⟩
      obtain ⟨x', st1', kvs, e1, e2⟩ := c0
      rw [q] at e1
      cases e1
      obtain ⟨kx, dx⟩ := x
      dsimp only at e2
      subst e2
      have o1 : Out G (IR G) w H ((if walkB kx then pure (kvs.map fun p => keyD p.1) else no : M (List D)) st1) (WS W σ) R := o1
      obtain ⟨c1, o2⟩ := o1.ifno
      obtain ⟨a, vs, rfl, hl, hl2, hh⟩ := dic_walk I p1 s1 k1 c1
      rcases hh with ⟨ob, ha, w2, p2, s2, hf, hs⟩ | ⟨ha, hh⟩
      · exact .inl ⟨a, ob, rfl, .inl ⟨_, ha, Out.fin o2 p2 s2 ⟨(itW_dk hf ha s2.wf hs).1, by simpa using hl⟩⟩⟩
      · refine .inr ⟨a, _, ha, fun ob => ?_⟩
        obtain ⟨w2, p2, s2, hf, hs⟩ := hh ob
        exact ⟨a, ob, rfl, .inl ⟨_, upd_same, Out.fin o2 p2 s2 ⟨(itW_dk hf upd_same s2.wf hs).1, by simpa using hl⟩⟩⟩
    · refine .inl ?_
      have cd : ∀ {kx : Kd} {dx : D} {st1 : Sto}, evE P e ρ st = .ok (kx, dx) st1 → itD .seq [(kx, dx)] = (PV.view (kx, dx) >>= fun d => ofO (seqO dx) : M (List D)) := fun {kx dx st1} q => by
        cases dx with
        | dic kvs => exact absurd ⟨_, _, _, q, rfl⟩ c0
        | _ => rfl
      by_cases c : ∃ x st1 as, evE P e ρ st = .ok x st1 ∧ x.2 = .tup as
      · refine .inr ⟨w, ρ, Os, st, g, Out.bindq (Po.refl _ _) ot fun x st1 v w1 H1 q p1 s1 k1 o1 => ?_⟩
        rintro ⟨pins, s, I⟩
        obtain ⟨x', st1', as, e1, e2⟩ := c
        obtain ⟨kx, dx⟩ := x
        rw [cd q] at o1
        rw [q] at e1
        cases e1
        obtain ⟨_, o2⟩ := o1.view
        dsimp only at e2
        subst e2
        obtain ⟨a, vs, rfl, hf, hs⟩ := k1.tup
        exact ⟨a, rfl, ⟨vs, hf.sqt⟩, Out.fin o2 p1 s1 ⟨itW_tup hf s1.wf hs, by rw [hs.length]; exact inv_tup I (hK ▸ hf.sqt)⟩⟩
      · refine .inl ⟨w, ρ, Os, st, g, Out.bindq (Po.refl _ _) ot fun x st1 v w1 H1 q p1 s1 k1 o1 => ?_⟩
        rintro ⟨pins, s, I⟩
        obtain ⟨kx, dx⟩ := x
        rw [cd q] at o1
        obtain ⟨c1, o2⟩ := o1.view
        have g1 := g.po p1 s1
        cases dx with
        | lst ds =>
          obtain ⟨O, a, vs, own, rfl, ha, n1, f⟩ := k1.walk s1.wf g1.ap c1
          have s2 := s1.frz own
          have f2 := f O fun _ z => z
          exact ⟨a, rfl, ⟨vs, .of ha⟩, Out.fin o2 (p1.frz fun a z => (own a z).1) s2 ⟨itW_list ha (n1 O) s2.wf f2, by rw [f2.length]; exact inv_list I ha⟩⟩
        | tup ds => exact absurd ⟨_, _, _, q, rfl⟩ c
        | _ => exact o2.elim
/-- range(j) -/
theorem di_rng1 {p : Expr} {e : E} {q : Pos} (hg : Gl X "range") (hm : X.mg "range" = none) (h : DA X G P [p] [e]) (hs : starEach [p] X.env = [(false, eval p X.env)] := by rfl) : DI X G P tg (.Call (.Name "range" q) [p] [] pos) .rng [e] := fun W tk =>
  imI (pi_range1 hg hm (h W tk) hs) fun σ H R ⟨w, ρ, Os, st, g, ot⟩ => by
    unfold evI at ot
    refine tA_bind g (Po.refl _ _) ot fun xs st1 vs w1 H1 len g1 p1 k1 o1 => ?_
    match xs, len, k1, o1 with
    | [(kx, .int j)], _, k1, o1 =>
      obtain ⟨v, rfl, kv⟩ := k1.one
      obtain rfl := kv.int
      unfold itD at o1
      dsimp only at o1
      by_cases c : szOk j.toNat ∧ -(2 ^ 62) ≤ j
      · rw [if_pos c] at o1
        have hz := sz_ok c.1
        refine ⟨j, rfl, c.2, ?_, Out.fin o1 p1 g1.s ⟨itW_rng, by simpa [rangeI] using hz⟩⟩
        have : j.toNat ≤ 16777216 := of_decide_eq_true c.1
        omega
      · rw [if_neg c] at o1
        exact o1.elim
    | [(kx, .non)], _, _, o1 => exact o1.elim
    | [(kx, .bl _)], _, _, o1 => exact o1.elim
    | [(kx, .str _)], _, _, o1 => exact o1.elim
    | [(kx, .tup _)], _, _, o1 => exact o1.elim
    | [(kx, .lst _)], _, _, o1 => exact o1.elim
    | [(kx, .dic _)], _, _, o1 => exact o1.elim
    | [(kx, .dit _)], _, _, o1 => exact o1.elim
    | [(kx, .ins _ _)], _, _, o1 => exact o1.elim
    | [(kx, .ref _)], _, _, o1 => exact o1.elim
end
end PV

/-! part PV13 -/
/-! PV13: generator expressions that any, all, sum walk: the generator's frame, its making. -/
namespace PV
open PySem PySem.Spec PyProof.Rows L2 LamX NdefX

/-- the generator's own frame -/
abbrev gxE (X : Cx) (scope : Scope) (C : Addr) (code : Value) : PySem.Env := genEnv scope (cloFrom X.env.cells scope.names []) C code builtinsNs X.env
abbrev gxX (X : Cx) (A : Around) (s : Shared) (H : Hp) (scope : Scope) (C : Addr) (code : Value) (fp : List Addr) : Cx :=
  { X with A := A, s_0 := s, H_0 := H, env := gxE X scope C code, outer := X.stack, stack := gxE X scope C code :: X.stack, ex := fp, fn := fun _ => false, pn := [], xe := fun _ _ => False }
section
variable {X : Cx} {pins : List (Addr × Obj)} {σ : L2.St} {H : Hp} {s : Shared}
theorem gx_start {scope : Scope} {own : List (Str × Nat)} {fp : List Addr} {A : Around} {C : Addr} {code : Value} {m : Str → Option Value} {h' : Heap} {g' : Array GenState} {t' : Nat}
    (I : Inv X pins σ H s) (ok : BlkOk X.N X.env.scope scope own) (hcell : ∀ y ∈ scope.names, y.2 ≠ .cell) (hN : X.N.Nodup) (hfp : ∀ b ∈ fp, FpOk X pins H b ∧ b < s.heap.objs.size) (hA : A.handled = none) (hfr : A.frames = some (gxE X scope C code :: X.stack))
    (hC : s.heap.objs.size ≤ C) (hns : h'.Ns C m) (kp : ∀ b o, s.heap.get? b = some o → h'.get? b = some o) (hg : AllBare g') :
    Inv (gxX X A s H scope C code fp) [] (wipe σ (own.map (·.2))) H { s with heap := h', gens := g', toks := t' } := by
  have hfree : ∀ y ∈ scope.names, y.2 = .free → ∃ c, X.env.cells.lookup y.1 = some c := fun y hy e => by
    rcases ok.free y hy e with k | k
    · exact I.ok.has _ (.inl k)
    · exact I.ok.has _ (.inr k)
  have cm : ∀ {y c}, (cloFrom X.env.cells scope.names []).lookup y = some c → X.env.cells.lookup y = some c ∧ c < s.heap.objs.size := fun {y c} e => by
    rcases cloFrom_mem (PySem.mem_of_lookup e) with hm | ⟨h1, h2⟩
    · cases hm
    · obtain ⟨c1, hc⟩ := hfree _ h1 rfl
      have hc : X.env.cells.lookup y = some c1 := hc
      have e2 : c = c1 := by
        rw [h2, hc] <;> rfl
      rw [e2]
      obtain ⟨w, z⟩ := I.cell _ _ hc
      exact ⟨hc, z.lt⟩
  have look : ∀ {y}, scope.names.lookup y = some .free → ∃ c, (cloFrom X.env.cells scope.names []).lookup y = some c := fun {y} hl => by
    have hy : (y, NameKind.free) ∈ scope.names := PySem.mem_of_lookup hl
    exact mem_lookup (cloFrom_has (cells := X.env.cells) (acc := []) hy)
  have nocell : ∀ {y}, scope.names.lookup y ≠ some .cell := fun {y} e => hcell _ (PySem.mem_of_lookup e) rfl
  refine ⟨⟨I.ok.mod, ok.kind, I.ok.glob, rfl, hC, fun y z c e1 e2 => I.ok.inj y z c (cm e1).1 (cm e2).1, fun y hy => ?_, fun y c z _ => ?_, fun _ => hA, hfr, .inr ⟨rfl, rfl⟩, fun b hb => ⟨?_, fun y c e z => ?_⟩, I.bs, Nat.le_trans I.ok.bsz I.sz, fun b o e hb => ?_, fun b hb z => ?_, I.stack, I.stkFree⟩,
    rfl, hg, Un.kept kp, ⟨m, hns, fun i y v e1 e2 e3 => ?_⟩, fun y c e => ?_, I.hok.fresh hC, fun y c e => ?_, fun p hp => absurd (show p ∈ ([] : List (Addr × Obj)) ++ [] from hp) (by simp), I.hok.kept kp, by rw [wipe_length]; exact I.len⟩
  · have hy : scope.names.lookup y = some .cell ∨ scope.names.lookup y = some .free := hy
    rcases hy with hy | hy
    · exact absurd hy nocell
    · exact look hy
  · have z : false = true := z
    cases z
  · exact Nat.ne_of_lt (Nat.lt_of_lt_of_le (hfp b hb).2 hC)
  · exact (hfp b hb).1.2.2.2.2.1 y c (cm e).1 z
  · rcases (hfp b hb).1.2.2.2.1 with z | z
    · exact I.ok.noex b o e z
    · exact absurd (Nat.lt_of_lt_of_le (Heap.lt_size e) (Nat.le_trans I.ok.bsz z)) (Nat.lt_irrefl _)
  · rcases List.mem_cons.mp (I.stkSub b z) with z | z
    · exact (hfp b hb).1.2.1 z
    · exact (hfp b hb).1.2.2.1 z
  · obtain ⟨e2, hne⟩ := wipe_some e2
    have hfr : scope.names.lookup y = some .free := by
      have no : ∀ k, scope.names.lookup y = some k → ¬ (k = .local ∨ k = .cell) := fun k e hh => by
        rcases ok.own _ (PySem.mem_of_lookup e) hh with e' | e'
        · obtain ⟨p, hp, hpy⟩ := List.mem_map.mp e'
          have e3 := ok.ix p hp
          have : p.1 = y := hpy
          rw [this] at e3
          exact hne (List.mem_map.mpr ⟨p, hp, nodup_ix hN e3 e1⟩)
        · exact e' (List.mem_of_getElem? e1)
      have e3 : Vis scope y := e3
      rcases e3 with k | k | k
      · exact absurd (.inl rfl) (no _ k)
      · exact absurd k nocell
      · exact k
    obtain ⟨m0, hn, hl⟩ := I.loc
    have hvis : Vis X.env.scope y := (ok.free _ (PySem.mem_of_lookup hfr) rfl).elim (fun k => .inr (.inl k)) (fun k => .inr (.inr k))
    obtain ⟨w', r, q⟩ := hl i y v e1 e2 hvis
    obtain ⟨c2, h2⟩ := look hfr
    refine ⟨w', r, .inr ⟨.inr hfr, c2, h2, ?_⟩⟩
    have c1 := (cm h2).1
    rcases q with ⟨k', _⟩ | ⟨_, c3, e', z⟩
    · have k' : X.env.scope.names.lookup y = some .local := k'
      rcases ok.free _ (PySem.mem_of_lookup hfr) rfl with k2 | k2 <;> rw [show X.env.scope.names.lookup y = _ from k2] at k' <;> cases k'
    · rw [c1] at e'
      cases e'
      exact z.keeps kp
  · obtain ⟨w', z⟩ := I.cell y c (cm e).1
    exact ⟨w', z.keeps kp⟩
  · exact I.freeC y c (cm e).1
theorem gx_make {T : List NTab} {nm : Nat → Nat → Str} {c P : Addr} {k : Nat} {elt tg iter : Expr} {ifs : List Expr} {scope : Scope} {own : List (Str × Nat)} {pos : Pos} {wi : TI} {R : It → Hp → Prop} {Q' : Value → Shared → Prop}
    (hr : Room k X.A) (TB : TabB X.base X.mg c P) (hcode : X.env.code = .ref c) (hm : (P, nm) ∈ T) (hn : nm pos.line pos.col = X.env.qual ++ "<genexpr>") (hu : ∀ p ∈ T, p.1 = P → p.2 = nm) (ok : BlkOk X.N X.env.scope scope own)
    (hcell : ∀ y ∈ scope.names, y.2 ≠ .cell) (hdot : scope.names.lookup (".0" : Str) = some NameKind.local) (hco : scope.isCoroutine = false) (hi : PI X tg iter wi) (hs : ∀ x, genFold iter X.env x = pure x) (I : Inv X pins σ H s)
    (h : wi σ H fun J H1 => TabsN T H1 ∧ R J H1)
    (hQ : ∀ (J : It) (H1 H2 : Hp) (it : Addr) (fp : List Addr) (tn : Nat → Heap → Prop) (a : Addr) (code : Value) (s4 : Shared) (h5 : Heap) (tk : Nat), R J H1 → ExtN H1 H2 → (∀ b, H2 b = none → H1 b = none) → TabsN T H2 → Turn X.prog X.w X.K tg J fp it tn → tn 0 h5 →
      Inv X pins σ H2 s4 → (∀ b ∈ fp, FpOk X pins H2 b ∧ b < s4.heap.objs.size) → s4.heap.objs.size < a → (∃ o : Obj, h5.get? a = some o ∧ ∀ v, o.data ≠ .cell v) → h5.IsGen a s4.gens.size → (∀ b o, s4.heap.get? b = some o → h5.get? b = some o) → (∃ m, h5.Ns s4.heap.objs.size m) →
      Q' (.ref a) { s4 with gens := s4.gens.push (.fresh (.compStart (.GeneratorExp elt [⟨tg, iter, ifs, 0⟩] scope pos) 0 (.ref it) .none (gxE X scope s4.heap.objs.size code))), heap := h5, toks := tk }) :
    wpAny (model X.prog X.w) X.A (eval (.GeneratorExp elt [⟨tg, iter, ifs, 0⟩] scope pos) X.env) Q' X.xe s := by
  have hfree : ∀ y ∈ scope.names, y.2 = .free → ∃ c, X.env.cells.lookup y.1 = some c := fun y hy e => by
    rcases ok.free y hy e with k | k
    · exact I.ok.has _ (.inl k)
    · exact I.ok.has _ (.inr k)
  refine wpAny_GeneratorExp_make hco (closure_ok hfree) hcell hdot ok.kind hr.depth ?_ hs
  refine thn (hi.run pins s σ H _ I h) fun xv s1 hx => thn hx fun itv s2 h2 => ?_
  obtain ⟨it, fp, tn, J, H1, e, I1, Tn, st2, f2, hT, hR⟩ := h2
  subst e
  refine ⟨I1.nolimit, ?_⟩
  have szf : ∀ b ∈ fp, b < s2.heap.objs.size := fun b hb => by
    obtain ⟨o, e, _⟩ := Tn.obj _ _ st2 b hb
    exact Heap.lt_size e
  obtain ⟨ps, hP, ht, ha⟩ := (show TabN H1 P nm from hT _ hm)
  have hP' : s2.heap.get? P = some { cls := .none, data := .fields ps } := I1.hok P _ hP
  have cont : ∀ (code : Value) (H2 : Hp) (s3 : Shared), Inv X pins σ H2 s3 → ExtN H1 H2 → (∀ b, H2 b = none → H1 b = none) → TabsN T H2 → tn 0 s3.heap → s2.heap.objs.size ≤ s3.heap.objs.size → (∀ b ∈ fp, H2 b = none) →
      wpAny (model X.prog X.w) X.A (builtinsFor X.env.globals X.env.builtins) (fun bi s₄ =>
        ∀ h', h'.Ns s₄.heap.objs.size (fun y => if y = ".0" then some (Value.ref it) else none) → Heap.SameBut s₄.heap.objs.size (s₄.heap.push { cls := .type "frame", data := .dict #[] }) h' →
          Q' (.ref h'.objs.size) { s₄ with
            gens := s₄.gens.push (.fresh (.compStart (.GeneratorExp elt [⟨tg, iter, ifs, 0⟩] scope pos) 0 (.ref it) .none (genEnv scope (cloFrom X.env.cells scope.names []) s₄.heap.objs.size code bi X.env))),
            toks := s₄.toks + 1 + 1 + 1,
            heap := h'.push { cls := .type "generator", data := .fields #[.int s₄.gens.size 0, .str "<genexpr>" (s₄.toks + 1), .str (X.env.qual ++ "<genexpr>") (s₄.toks + 1 + 1)] } }) X.xe s3 := by
    intro code H2 s3 I3 eN nN T3 st3 sz3 nfp
    obtain ⟨bm, ob, e1, e2, e3, e4, e5, e6, e7, e8⟩ := TB.bm
    refine wpAny_builtinsFor (m := X.mg) (by rw [I3.ok.glob]; exact I3.mod.glob.keeps I3.bk) e1 e2 (I3.bk _ _ e5) e6 e7 e8 fun h' hn' hs' => ?_
    have hsz : h'.objs.size = s3.heap.objs.size + 1 := by rw [hs'.1, Heap.size_push]
    have keep' : ∀ b o, s3.heap.get? b = some o → h'.get? b = some o := fun b o e => hs'.extBut b o (Nat.ne_of_lt (Heap.lt_size e)) (Heap.get?_push_of_some _ e)
    refine hQ J H1 H2 it fp tn h'.objs.size code s3 _ _ hR eN nN T3 Tn ?_ I3 (fun b hb => ⟨⟨nfp b hb, (f2 b hb).2⟩, Nat.lt_of_lt_of_le (szf b hb) sz3⟩) (by omega) ⟨_, Heap.get?_push_size _ rfl, fun v z => by cases z⟩ ⟨_, _, _, Heap.get?_push_size _ rfl, rfl, rfl, rfl⟩ (fun b o e => Heap.get?_push_of_some _ (keep' b o e)) ⟨_, hn'.push _⟩
    exact Tn.keep _ _ _ st3 fun b _ o e => Heap.get?_push_of_some _ (keep' b o e)
  have nfp : ∀ b ∈ fp, H1 b = none := fun b hb => (f2 b hb).1
  have cd : PySem.W.CodeHd s2.heap c P := TB.code.keeps I1.bk
  cases hc : codeAmong pos ps.toList with
  | none =>
    refine wpAny_genexprCodeX hcode (cd.code hP' ht) (cd.tab hP') hc fun c' h' tk hx hge hlt hco' hrec htb _ => ?_
    obtain ⟨c2, oc, vs, t, e2, hoc, hd, hv⟩ := hrec
    cases e2
    have nC : H1 c' = none := I1.hok.fresh hge
    have I2 := inv_table (t' := tk) (more := #[rawInt pos.line, rawInt pos.col, .ref c']) (h' := h') I1 hP (fun b o hb e => hx b o hb e) htb.2 hge ⟨oc, vs, t, hoc, hd, hv⟩
    have hE : ExtN H1 (upd (upd H1 P (.tbl (ps ++ #[rawInt pos.line, rawInt pos.col, .ref c']))) c' (CodeO c' (X.env.qual ++ "<genexpr>"))) := fun b o e n => by
      rw [upd_ne (ne_of_none e nC), upd_ne (fun z => n ps (Option.some.inj (e.symm.trans (by rw [z]; exact hP))))]
      exact e
    have eL : (ps ++ #[rawInt pos.line, rawInt pos.col, .ref c']).toList = ps.toList ++ [rawInt pos.line, rawInt pos.col, .ref c'] := by simp
    have T1 : TabsN T (upd (upd H1 P (.tbl (ps ++ #[rawInt pos.line, rawInt pos.col, .ref c']))) c' (CodeO c' (X.env.qual ++ "<genexpr>"))) := fun p hp => by
      by_cases hb : p.1 = P
      · rw [hu p hp hb, hb]
        refine ⟨_, by rw [upd_ne (ne_of_none hP nC), upd_same], by rw [eL]; exact PySem.TriplesOk_snoc _ _ _ _ ht, fun p' cv hcv => ?_⟩
        rw [eL] at hcv
        rcases among_app2 _ ht hcv with z | ⟨z, z1, z2⟩
        · obtain ⟨c0, e1, e2⟩ := ha p' cv z
          exact ⟨c0, e1, hE _ _ e2 codeO_ne⟩
        · refine ⟨c', z, ?_⟩
          rw [← z1, ← z2, hn]
          exact upd_same
      · obtain ⟨ps', a1, a2, a3⟩ := hT p hp
        refine ⟨ps', by rw [upd_ne (ne_of_none a1 nC), upd_ne hb]; exact a1, a2, fun p' cv hcv => ?_⟩
        obtain ⟨c0, e1, e2⟩ := a3 p' cv hcv
        exact ⟨c0, e1, hE _ _ e2 codeO_ne⟩
    have fP : ∀ b ∈ fp, b ≠ P := fun b hb z => by have q := nfp b hb; rw [z, hP] at q; cases q
    refine cont _ _ _ I2 hE (fun b e => upd_none (upd_none e)) T1 (Tn.keep _ _ _ st2 fun b hb o e => hx b o (fP b hb) e) (Nat.le_trans hge (Nat.le_of_lt hlt)) fun b hb => ?_
    rw [upd_ne (Nat.ne_of_lt (Nat.lt_of_lt_of_le (szf b hb) hge)), upd_ne (fP b hb)]
    exact nfp b hb
  | some cv =>
    refine wpAny_genexprCode_hit hcode (cd.code hP' ht) hc ?_
    exact cont cv H1 s2 I1 (ExtN.refl H1) (fun _ e => e) hT st2 (Nat.le_refl _) nfp
end
end PV

/-! part PV14 -/
/-! PV14: generator expressions: the generator's body; any, all, sum over it. -/
namespace PV
open PySem PySem.Spec PyProof.Rows L2 LamX NdefX

def gkEnd : Gk → Int → V
  | .any, _ => .bl false
  | .all, _ => .bl true
  | .sum, i => .int i
def gkStep (k : Gk) (acc : Int) (y : V) (stop : V → Prop) (cont : Int → Prop) : Prop := match k, y with
  | .any, .bl true => stop (.bl true)
  | .any, .bl false => cont acc
  | .all, .bl true => cont acc
  | .all, .bl false => stop (.bl false)
  | .sum, .int j => cont (acc + j)
  | _, _ => False
theorem gkStep_mono {k : Gk} {acc : Int} {y : V} {p p' : V → Prop} {q q' : Int → Prop} (hp : ∀ v, p v → p' v) (hq : ∀ a, q a → q' a) (h : gkStep k acc y p q) : gkStep k acc y p' q' := by
  unfold gkStep at h ⊢
  split at h <;> first | exact hp _ h | exact hq _ h | exact h.elim
/-- any(..), all(..), sum(..) of a generator expression -/
def GxW (k : Gk) (J : It) (g : TG) (tt : TT) (te : TE) (vs : List Nat) (σ : L2.St) (Q : VK) (W : Nat → Nat → Int → Hp → Prop) : Prop := ∀ i m acc H, W i m acc H →
  (J.stop i H ∧ Q (gkEnd k acc) H) ∨ (J.go i H ∧ ∃ Nx : Int → Hp → Prop, (∀ a' H', Nx a' H' → ∃ m', m' < m ∧ W (i + 1) m' a' H') ∧ ∀ x H', J.yld i H x H' → g x (wipe σ vs) H' fun σ2 H2 => wipe σ2 vs = wipe σ vs ∧ tt σ2 H2 fun b H3 =>
    if b = true then te σ2 H3 fun y H4 => gkStep k acc y (fun r => Q r H4) (fun a' => Nx a' H4) else Nx acc H3)
def tGx (T : List NTab) (k : Gk) (wi : TI) (g : TG) (tt : TT) (te : TE) (vs : List Nat) : TE := fun σ H Q => wi σ H fun J H1 => TabsN T H1 ∧ ∀ H2, ExtN H1 H2 → (∀ b, H2 b = none → H1 b = none) → TabsN T H2 →
  ∃ W : Nat → Nat → Int → Hp → Prop, (∃ m, W 0 m 0 H2) ∧ GxW k J g tt te vs σ Q W

section
variable {X : Cx} {pins : List (Addr × Obj)} {σ : L2.St} {H : Hp} {s : Shared}
theorem inv_gens {g' : Array GenState} (I : Inv X pins σ H s) (hg : AllBare g') : Inv X pins σ H { s with gens := g' } := ⟨I.ok, I.os, hg, I.base, I.loc, I.cell, I.free, I.freeC, I.pin, I.hok, I.len⟩
theorem bare_set {g : Nat} {gs x : GenState} (hg : AllBare s.gens) (e : s.gens[g]? = some gs) (hx : x.bare = true) : AllBare (s.setGen g x).gens :=
  hg.moved (GenOnlyQ.of (GenOnly.setGen s g x) (setGen_self e) hx)
theorem bare_set' {g : Nat} {x : GenState} (hg : AllBare s.gens) (hl : g < s.gens.size) (hx : x.bare = true) : AllBare (s.setGen g x).gens :=
  bare_set hg (Array.getElem?_eq_getElem hl) hx
/-- places of our own may turn and are pinned anew -/
def OwnPl (X : Cx) (ps : List Addr) : Prop := ∀ b ∈ ps, X.s_0.heap.objs.size ≤ b ∧ b ≠ X.env.locals ∧ ∀ x c, X.env.cells.lookup x = some c → c ≠ b
theorem inv_repin {ps : List Addr} {h0 h' : Heap} {t' : Nat} (hp : OwnPl X ps) (hpn : X.pn = []) (I : Inv X (pinsAt ps h0) σ H s) (there : ∀ b ∈ ps, ∃ o, h0.get? b = some o) (keep : ∀ b o, b ∉ ps → s.heap.get? b = some o → h'.get? b = some o)
    (nw : ∀ b ∈ ps, ∃ o, h'.get? b = some o ∧ ∀ v, o.data ≠ .cell v) : Inv X (pinsAt ps h') σ H { s with heap := h', toks := t' } := by
  have hpin : ∀ b ∈ ps, H b = none ∧ b ∉ X.fs := fun b hb => by
    obtain ⟨o, e⟩ := there b hb
    obtain ⟨_, h1, _, h2, _⟩ := I.pin (b, o) (List.mem_append_right _ (mem_pinsAt hb e))
    exact ⟨h1, h2⟩
  have I0 : Inv X [] σ H s := I.unpinned (pins := [])
  have nH : ∀ b u, H b = some u → b ∉ ps := fun b u e hb => by
    rw [(hpin b hb).1] at e
    cases e
  have J : Inv X [] σ H { s with heap := h', gens := s.gens, drawn := s.drawn, toks := t' } := by
    refine I0.step (g' := s.gens) (d' := s.drawn) (ch := ps) (fun b hb => ⟨.inr (hp b hb).1, (hp b hb).2.1, (hp b hb).2.2, fun p hq => ?_⟩) (fun b o _ _ hc e _ => keep b o hc e) (fun b o _ _ hc e _ => ⟨o.slots, keep b o hc e⟩) (fun _ _ _ _ n => n) (fun b o hc e => ⟨o, keep b o hc e⟩)
      (fun _ _ e => e) (fun _ _ _ e => e) (fun b ps e => ⟨#[], by rw [e]; simp⟩) (fun m hm => ?_) (fun b u e => ?_) I0.bare
    · rw [hpn] at hq
      exact absurd hq (by simp)
    · obtain ⟨ob, es, ep, ho, r⟩ := hm
      exact ⟨ob, es, ep, keep _ ob (fun z => (hp _ z).2.1 rfl) ho, r⟩
    · refine (I0.hok b u e).stay (fun c v hc y => keep c v ?_ y) (fun _ y => y) fun _ _ y => y
      rcases hc with y | y
      · rw [y]; exact nH b u e
      · exact nH c _ y
  refine J.pins_of fun p hq => ?_
  obtain ⟨hb, e⟩ := of_pinsAt hq
  obtain ⟨o, e', d⟩ := nw p.1 hb
  rw [e] at e'
  cases e'
  exact ⟨e, (hpin p.1 hb).1, (hp p.1 hb).2.1, (hpin p.1 hb).2, d⟩
end

/-- what the generator's run needs to go on at turn i -/
structure GxOn (Xg : Cx) (ps fp : List Addr) (tn : Nat → Heap → Prop) (rd : Heap → Int) (W : Nat → Nat → Int → Hp → Prop) (σw : L2.St) (i n : Nat) (H : Hp) (s : Shared) : Prop where
  inv : Inv Xg (pinsAt ps s.heap) σw H s
  st : tn i s.heap
  w : ∃ m, m < n ∧ W i m (rd s.heap) H
def gxY (Xg : Cx) (ps fp : List Addr) (tn : Nat → Heap → Prop) (rd : Heap → Int) (W : Nat → Nat → Int → Hp → Prop) (σw : L2.St) (k : Gk) (Q : VK) : Protocol := fun n s₀ v s kap =>
  ∃ y i H1, RelV y v ∧ Inv Xg (pinsAt ps s₀.heap) σw H1 s ∧ tn i s.heap ∧ (∀ b ∈ fp, H1 b = none) ∧ gkStep k (rd s₀.heap) y (fun r => Q r H1) (fun a' => ∃ m', m' < n ∧ W i m' a' H1) ∧
    ∀ s'', GxOn Xg ps fp tn rd W σw i n H1 s'' → kap (.send .none) s''
def gxP (Xg : Cx) (ps : List Addr) (rd : Heap → Int) (σw : L2.St) (k : Gk) (Q : VK) : Nat → Shared → Shared → Prop := fun n s₀ s => ∃ H1, Inv Xg (pinsAt ps s₀.heap) σw H1 s ∧ Q (gkEnd k (rd s₀.heap)) H1
abbrev gxR (Xg : Cx) (ps : List Addr) (rd : Heap → Int) (σw : L2.St) (k : Gk) (Q : VK) : GenEnd := fun n s₀ r s₁ => r = .ok .next ∧ gxP Xg ps rd σw k Q n s₀ s₁

section
variable {Xg : Cx} {elt tg iter : Expr} {ifs : List Expr} {scope : Scope} {pos : Pos} {it : Addr} {fp ps : List Addr} {tn : Nat → Heap → Prop} {J : It} {A : Around} {k : Gk} {g : TG} {tt : TT} {te : TE} {vs : List Nat} {σ : L2.St} {Q : VK} {W : Nat → Nat → Int → Hp → Prop} {rd : Heap → Int}
theorem gx_loop (hA : Xg.A = A.over (.compLoop (.GeneratorExp elt [⟨tg, iter, ifs, 0⟩] scope pos) 0 (.ref it) .none Xg.env) []) (hxe : Xg.xe = fun _ _ => False) (hc : Xg.calm = true) (hco : Xg.env.scope.isCoroutine = false) (hex : Xg.ex = fp) (hpn : Xg.pn = []) (hfs : ∀ b ∈ ps, b ∉ fp)
    (T : Turn Xg.prog Xg.w Xg.K tg J fp it tn) (pg : PG Xg tg g) (pt : PTs Xg ifs tt) (pe : PE Xg elt te) (hW : GxW k J g tt te vs σ Q W) :
    ∀ (n m i : Nat) (s₀ s : Shared) (H : Hp), W i m (rd s₀.heap) H → m < n → Inv Xg (pinsAt ps s₀.heap) (wipe σ vs) H s → tn i s.heap → (∀ b ∈ fp, H b = none) →
      Seg (model Xg.prog Xg.w) A (gxR Xg ps rd (wipe σ vs) k Q) (gxY Xg ps fp tn rd W (wipe σ vs) k Q) n s₀ (.compLoop (.GeneratorExp elt [⟨tg, iter, ifs, 0⟩] scope pos) 0 (.ref it) .none Xg.env)
        ((model Xg.prog Xg.w).den (.compLoop (.GeneratorExp elt [⟨tg, iter, ifs, 0⟩] scope pos) 0 (.ref it) .none Xg.env)) [] s := by
  have stat : ∀ {pl : List (Addr × Obj)} {σ' : L2.St} {H' : Hp} {s' : Shared}, Inv Xg pl σ' H' s' → (∀ p ∈ pl, p.1 ∉ fp) → (∀ b ∈ fp, H' b = none) → ∀ b ∈ fp, FpOk Xg pl H' b := fun {pl σ' H' s'} I' hq hn b hb =>
    ⟨hn b hb, (I'.ok.exf b (by rw [hex]; exact hb)).1, I'.ok.exfs b (by rw [hex]; exact hb), .inl (by rw [hex]; exact hb), fun x c e => (I'.ok.exf b (by rw [hex]; exact hb)).2 x c e, fun p hp => by
      rw [hpn] at hp
      exact fun z => hq p (by simpa using hp) (by rw [z]; exact hb)⟩
  have npl : ∀ (h : Heap), ∀ p ∈ pinsAt ps h, p.1 ∉ fp := fun h p hp => hfs _ (of_pinsAt hp).1
  have thA : ∀ {α : Type} {t : Sem α} {Q Q' : α → Shared → Prop} {E : Value → Shared → Prop} {s : Shared}, wpAny (model Xg.prog Xg.w) Xg.A t Q Xg.xe s → (∀ a s, Q a s → Q' a s) → wpAny (model Xg.prog Xg.w) (A.over (.compLoop (.GeneratorExp elt [⟨tg, iter, ifs, 0⟩] scope pos) 0 (.ref it) .none Xg.env) []) t Q' E s := fun h hQ => by
    rw [hxe] at h
    rw [← hA]
    exact thnF h hQ
  intro n
  induction n with
  | zero => intro m i s₀ s H w hmn; exact absurd hmn (Nat.not_lt_zero _)
  | succ n ihn =>
  intro m
  induction m using Nat.strongRecOn with
  | ind m ih =>
    intro i s₀ s H w hmn I st nfp
    show Seg _ A _ _ _ s₀ _ ((compTurn (.GeneratorExp elt [⟨tg, iter, ifs, 0⟩] scope pos) 0 (.ref it) .none Xg.env).onRaise (leaving Xg.env)) [] s
    rw [compTurn_gen, Sem.onRaise_eq_wrap]
    refine seg_bind_wrap (wpAny_standAt ?_)
    rcases hW i m _ H w with ⟨stop, qq⟩ | ⟨go, Nx, hNx, step⟩
    · refine seg_bind_wrap (thA (T.done Xg rfl rfl rfl hc i _ s _ H Xg.xe I (stat I (npl _) nfp) st stop) fun r s6 ⟨hr, I6⟩ => ?_)
      subst hr
      exact seg_end (.ok .next) ⟨rfl, H, I6, qq⟩
    · refine seg_bind_wrap (thA (T.item Xg rfl rfl rfl hc i _ s _ H Xg.xe I (stat I (npl _) nfp) st go) fun r s6 ⟨u, hr, h6⟩ => ?_)
      subst hr
      refine seg_bind_wrap (thA h6 fun _ s7 ⟨x, H7, I7, r7, y7, st7, n7⟩ => ?_)
      have I7' := I7.pinned (stat I7 (npl _) n7) (T.obj _ _ st7)
      refine seg_bind_wrap (thA (pg.run _ s7 _ H7 x u _ I7' r7 (step x H7 y7)) fun _ s8 ⟨σ8, H8, I8, hw8, q8⟩ => ?_)
      refine seg_bind_wrap (thA (pt.run _ s8 σ8 H8 _ I8 q8) fun b s9 ⟨H9, I9, q9⟩ => ?_)
      have fin : ∀ {s' : Shared} {H' : Hp}, Inv Xg (pinsAt ps s₀.heap ++ pinsAt fp s7.heap) σ8 H' s' → Inv Xg (pinsAt ps s₀.heap) (wipe σ vs) H' s' ∧ tn (i + 1) s'.heap ∧ ∀ b ∈ fp, H' b = none := fun {s' H'} I' => by
        have pin' : ∀ b ∈ fp, ∀ o, s7.heap.get? b = some o → s'.heap.get? b = some o ∧ H' b = none := fun b hb o e =>
          let z := I'.pin (b, o) (List.mem_append_right _ (List.mem_append_right _ (mem_pinsAt hb e)))
          ⟨z.1, z.2.1⟩
        have hl : (wipe σ vs).length = σ8.length := by rw [← hw8, wipe_length]
        refine ⟨I'.unpinned.weak hl (fun j v e => ?_), T.keep _ _ _ st7 fun b hb o e => (pin' b hb o e).1, fun b hb => ?_⟩
        · rw [← hw8] at e
          exact (wipe_some e).1
        · obtain ⟨o, e, _⟩ := T.obj _ _ st7 b hb
          exact (pin' b hb o e).2
      cases b with
      | false =>
        simp only [Bool.false_eq_true, if_false] at q9 ⊢
        obtain ⟨m', hm, w'⟩ := hNx _ _ q9
        obtain ⟨f1, f2, f3⟩ := fin I9
        exact seg_again rfl (ih m' hm (i + 1) s₀ s9 H9 w' (by omega) f1 f2 f3)
      | true =>
        simp only [if_true] at q9 ⊢
        have hy : ∀ v, yieldOut Xg.env v = yieldValue v := fun v => by simp only [yieldOut, hco, Bool.false_eq_true, if_false]
        simp only [hy]
        rw [Sem.bind_eq_wrap', Sem.bind_eq_wrap', Sem.wrap_wrap, Sem.wrap_wrap]
        refine seg_wrap (thA (pe.run _ s9 σ8 H9 _ I9 q9) fun z s10 ⟨yv, H10, I10, r10, q10⟩ => ?_)
        obtain ⟨f1, f2, f3⟩ := fin I10
        refine seg_at (seg_yield rfl rfl rfl ⟨yv, i + 1, H10, r10, f1, f2, f3, ?_, fun s'' on => ?_⟩)
        · exact gkStep_mono (fun _ q => q) (fun a' nx => by
            obtain ⟨m', hm, w'⟩ := hNx _ _ nx
            exact ⟨m', by omega, w'⟩) q10
        · obtain ⟨m', hm, w'⟩ := on.w
          exact seg_again rfl (ihn m' (i + 1) s'' s'' H10 w' hm on.inv on.st f3)
end
end PV

/-! part PV15 -/
/-! PV15: generator expressions: any, all, sum ask the generator. -/
namespace PV
open PySem PySem.Spec PyProof.Rows L2 LamX NdefX

theorem pinsAt_eq {h h' : Heap} : ∀ {ps : List Addr}, (∀ b ∈ ps, h'.get? b = h.get? b) → pinsAt ps h' = pinsAt ps h
  | [], _ => rfl
  | b :: ps, e => by
    have ih := pinsAt_eq (ps := ps) fun c hc => e c (List.mem_cons_of_mem _ hc)
    unfold pinsAt at ih ⊢
    rw [List.filterMap_cons, List.filterMap_cons, e b List.mem_cons_self, ih]
section
variable {Xg : Cx} {elt tg iter : Expr} {ifs : List Expr} {scope : Scope} {pos : Pos} {it : Addr} {fp ps : List Addr} {tn : Nat → Heap → Prop} {J : It} {A : Around} {k : Gk} {g : TG} {tt : TT} {te : TE} {vs : List Nat} {σ : L2.St} {Q : VK} {W : Nat → Nat → Int → Hp → Prop} {rd : Heap → Int}
theorem gx_first (hA : Xg.A = A.over (.compLoop (.GeneratorExp elt [⟨tg, iter, ifs, 0⟩] scope pos) 0 (.ref it) .none Xg.env) []) (hxe : Xg.xe = fun _ _ => False) (hc : Xg.calm = true) (hco : Xg.env.scope.isCoroutine = false) (hex : Xg.ex = fp) (hpn : Xg.pn = []) (hfs : ∀ b ∈ ps, b ∉ fp)
    (T : Turn Xg.prog Xg.w Xg.K tg J fp it tn) (pg : PG Xg tg g) (pt : PTs Xg ifs tt) (pe : PE Xg elt te) (hW : GxW k J g tt te vs σ Q W)
    {n : Nat} {H : Hp} {s'' : Shared} (nfp : ∀ b ∈ fp, H b = none) (on : GxOn Xg ps fp tn rd W (wipe σ vs) 0 n H s'') :
    (GenState.fresh (.compStart (.GeneratorExp elt [⟨tg, iter, ifs, 0⟩] scope pos) 0 (.ref it) .none Xg.env)).Goes (model Xg.prog Xg.w) A (gxR Xg ps rd (wipe σ vs) k Q) (gxY Xg ps fp tn rd W (wipe σ vs) k Q) n (.send .none) s'' := by
  obtain ⟨m, hm, w⟩ := on.w
  have loop := gx_loop hA hxe hc hco hex hpn hfs T pg pt pe hW n m 0 s'' s'' H w hm on.inv on.st nfp
  refine ⟨rfl, ?_⟩
  show Seg _ A _ _ _ s'' _ ((compStart (.GeneratorExp elt [⟨tg, iter, ifs, 0⟩] scope pos) 0 (.ref it) .none Xg.env).onRaise (leaving Xg.env)) [] s''
  unfold compStart
  rw [Sem.onRaise_eq_wrap]
  show Seg _ A _ _ _ s'' _ ((ask >>= _).wrap _ _ _ _) [] s''
  refine seg_bind_wrap (wpAny_askSetting ?_)
  split
  · exact seg_again rfl loop
  · first
      | exact seg_bind_wrap (wpAny_rule (seg_bind_wrap (wpAny_standAt (seg_bind_wrap (T.self _ 0 s'' _ _ on.st (seg_again rfl loop))))))
      | (refine seg_bind_wrap (wpAny_rule ?_); show Seg _ A _ _ _ s'' _ ((standAt iter.pos >>= _).wrap _ _ _ _) [] s''; exact seg_bind_wrap (wpAny_standAt (seg_bind_wrap (T.self _ 0 s'' _ _ on.st (seg_again rfl loop)))))
end

/-- the generator a (its number j), asleep, n turns at most -/
structure GxSt (Xg : Cx) (A : Around) (a : Addr) (j : Nat) (ps fp : List Addr) (tn : Nat → Heap → Prop) (rd : Heap → Int) (W : Nat → Nat → Int → Hp → Prop) (σw : L2.St) (k : Gk) (Q : VK) (i n : Nat) (H : Hp) (s : Shared) : Prop where
  on : GxOn Xg ps fp tn rd W σw i n H s
  nfp : ∀ b ∈ fp, H b = none
  gen : s.heap.IsGen a j
  go : ∃ gs, s.gens[j]? = some gs ∧ ∀ s'', GxOn Xg ps fp tn rd W σw i n H s'' → gs.Goes (model Xg.prog Xg.w) A (gxR Xg ps rd σw k Q) (gxY Xg ps fp tn rd W σw k Q) n (.send .none) s''
/-- a value has come -/
structure GxYd (Xg : Cx) (A : Around) (a : Addr) (j : Nat) (ps fp : List Addr) (tn : Nat → Heap → Prop) (rd : Heap → Int) (W : Nat → Nat → Int → Hp → Prop) (σw : L2.St) (k : Gk) (Q : VK) (h0 : Heap) (n : Nat) (y : V) (i : Nat) (H : Hp) (s : Shared) : Prop where
  inv : Inv Xg (pinsAt ps h0) σw H s
  st : tn i s.heap
  nfp : ∀ b ∈ fp, H b = none
  gen : s.heap.IsGen a j
  step : gkStep k (rd h0) y (fun r => Q r H) (fun a' => ∃ m', m' < n ∧ W i m' a' H)
  go : ∃ gs, s.gens[j]? = some gs ∧ ∀ s'', GxOn Xg ps fp tn rd W σw i n H s'' → gs.Goes (model Xg.prog Xg.w) A (gxR Xg ps rd σw k Q) (gxY Xg ps fp tn rd W σw k Q) n (.send .none) s''
section
variable {Xg : Cx} {A : Around} {a : Addr} {j : Nat} {ps fp : List Addr} {tn : Nat → Heap → Prop} {rd : Heap → Int} {W : Nat → Nat → Int → Hp → Prop} {σw : L2.St} {k : Gk} {Q : VK} {i n : Nat} {H : Hp} {s : Shared}
theorem gx_next {Qn : Option Value → Shared → Prop} {E : Value → Shared → Prop} (hh : A.handled = none) (hroom : A.depth < recursionLimit) (ha : a ∈ ps) (h : GxSt Xg A.in1 a j ps fp tn rd W σw k Q i n H s)
    (hY : ∀ n' v y i' H1 s₁, n = n' + 1 → RelV y v → GxYd Xg A.in1 a j ps fp tn rd W σw k Q s.heap n' y i' H1 s₁ → Qn (some v) s₁)
    (hP : ∀ H1 s₁, Inv Xg (pinsAt ps s.heap) σw H1 s₁ → Q (gkEnd k (rd s.heap)) H1 → Qn none s₁) : wpAny (model Xg.prog Xg.w) A (pyNext (.ref a)) Qn E s := by
  obtain ⟨gs, hgs, hgo⟩ := h.go
  have hlt : j < s.gens.size := (Array.getElem?_eq_some_iff.mp hgs).1
  have bR : AllBare (s.setGen j .running).gens := bare_set h.on.inv.bare hgs rfl
  have onR : GxOn Xg ps fp tn rd W σw i n H (s.setGen j .running) := ⟨inv_gens h.on.inv bR, h.on.st, h.on.w⟩
  refine GenW.wpAny_gsz (n := j + 1) hlt ?_
  refine wpAny_pyNext_genexpQ (P := gxP Xg ps rd σw k Q) hh h.on.inv.nolimit hroom h.gen hgs (hgo _ onR) (fun v s₁ gs' hb hv hsz => ?_) (fun s₁ hp h' hk hsz => ?_)
  · obtain ⟨y, i', H1, r, I1, st1, nfp1, stp, kap⟩ := hv
    have hsz1 : j < s₁.gens.size := by
      have z : j + 1 ≤ (s₁.setGen j gs').gens.size := hsz
      rw [GenW.setGen_size] at z
      exact z
    have b1 : AllBare (s₁.setGen j gs').gens := bare_set' I1.bare hsz1 hb
    obtain ⟨o, nm, qn, ho, r1, r2, r3⟩ := h.gen
    have ho1 : s₁.heap.get? a = some o := (I1.pin (a, o) (List.mem_append_right _ (mem_pinsAt ha ho))).1
    cases n with
    | zero =>
      obtain ⟨m, hm, _⟩ := h.on.w
      exact absurd hm (Nat.not_lt_zero _)
    | succ n =>
      refine hY n v y i' H1 _ rfl r ⟨inv_gens I1 b1, st1, nfp1, ⟨o, nm, qn, ho1, r1, r2, r3⟩, stp, gs', setGen_self (Array.getElem?_eq_getElem hsz1), fun s'' on => ?_⟩
      exact kap s'' on
  · obtain ⟨H1, I1, q⟩ := hp
    have hsz1 : j < s₁.gens.size := by
      have z : j + 1 ≤ (s₁.setGen j .finished).gens.size := hsz
      rw [GenW.setGen_size] at z
      exact z
    have b1 : AllBare (s₁.setGen j .finished).gens := bare_set' I1.bare hsz1 rfl
    refine hP H1 _ ?_ q
    have I2 := inv_gens I1 b1
    exact I2.kept (h' := h') hk
theorem any_loop {R : Result → Shared → Prop} (hh : A.handled = none) (hroom : A.depth < recursionLimit) (ha : a ∈ ps) (hrd : ∀ h, rd h = 0) (hps : ∀ b ∈ ps, ∃ o, s.heap.get? b = some o)
    (hR : ∀ r u H1 s', RelV r u → Inv Xg [] σw H1 s' → Q r H1 → R (.ok (.ret u)) s') :
    ∀ (n i : Nat) (H : Hp) (s : Shared), (∀ b ∈ ps, ∃ o, s.heap.get? b = some o) → GxSt Xg A.in1.in1 a j ps fp tn rd W σw .any Q i n H s → codeAny (model Xg.prog Xg.w) A (.builtin "any.loop" ⟨[.ref a], []⟩) R s := by
  intro n
  induction n with
  | zero => intro i H s _ h; obtain ⟨m, hm, _⟩ := h.on.w; exact absurd hm (Nat.not_lt_zero _)
  | succ n ih =>
    intro i H s hps h
    refine codeAny_builtin F.entry_any_loop ?_
    rw [Around.under_plainId F.plain_any_loop _]
    show wpAny _ A.in1 (pyNext (.ref a) >>= _) _ _ s
    refine wpAny_bind (gx_next (A := A.in1) hh hroom ha h (fun n' v y i' H1 s₁ en r yd => ?_) (fun H1 s₁ I1 q => ?_))
    · cases en
      have stp := yd.step
      unfold gkStep at stp
      split at stp
      all_goals first | contradiction | skip
      · obtain rfl : v = .bool true := r
        refine wpAny_bind (wpAny_holding (wpAny_truthy_bool ?_))
        refine wpAny_bind (wpAny_letGo ?_)
        simp only [if_true]
        exact wpAny_bind (wpAny_rule (wpAny_pure (hR (.bl true) _ H1 _ rfl yd.inv.unpinned stp)))
      · obtain rfl : v = .bool false := r
        refine wpAny_bind (wpAny_holding (wpAny_truthy_bool ?_))
        refine wpAny_bind (wpAny_letGo ?_)
        simp only [Bool.false_eq_true, if_false]
        have pk : ∀ b ∈ ps, ∀ o, s.heap.get? b = some o → s₁.heap.get? b = some o := fun b hb o e => (yd.inv.pin (b, o) (List.mem_append_right _ (mem_pinsAt hb e))).1
        have he : pinsAt ps s₁.heap = pinsAt ps s.heap := pinsAt_eq fun b hb => by
          obtain ⟨o, e⟩ := hps b hb
          rw [e, pk b hb o e]
        refine wpAny_pure ⟨plainId_quiet F.plain_any_loop _, ih i' H1 s₁ (fun b hb => (hps b hb).imp fun o e => pk b hb o e) ⟨⟨by rw [he]; exact yd.inv, yd.st, ?_⟩, yd.nfp, yd.gen, yd.go⟩⟩
        rw [hrd] at stp ⊢
        exact stp
    · exact wpAny_bind (wpAny_rule (wpAny_pure (hR (.bl false) _ H1 _ rfl I1.unpinned q)))
theorem all_loop {R : Result → Shared → Prop} (hh : A.handled = none) (hroom : A.depth < recursionLimit) (ha : a ∈ ps) (hrd : ∀ h, rd h = 0) (hps : ∀ b ∈ ps, ∃ o, s.heap.get? b = some o)
    (hR : ∀ r u H1 s', RelV r u → Inv Xg [] σw H1 s' → Q r H1 → R (.ok (.ret u)) s') :
    ∀ (n i : Nat) (H : Hp) (s : Shared), (∀ b ∈ ps, ∃ o, s.heap.get? b = some o) → GxSt Xg A.in1.in1 a j ps fp tn rd W σw .all Q i n H s → codeAny (model Xg.prog Xg.w) A (.builtin "all.loop" ⟨[.ref a], []⟩) R s := by
  intro n
  induction n with
  | zero => intro i H s _ h; obtain ⟨m, hm, _⟩ := h.on.w; exact absurd hm (Nat.not_lt_zero _)
  | succ n ih =>
    intro i H s hps h
    refine codeAny_builtin F.entry_all_loop ?_
    rw [Around.under_plainId F.plain_all_loop _]
    show wpAny _ A.in1 (pyNext (.ref a) >>= _) _ _ s
    refine wpAny_bind (gx_next (A := A.in1) hh hroom ha h (fun n' v y i' H1 s₁ en r yd => ?_) (fun H1 s₁ I1 q => ?_))
    · cases en
      have stp := yd.step
      unfold gkStep at stp
      split at stp
      all_goals first | contradiction | skip
      · obtain rfl : v = .bool true := r
        refine wpAny_bind (wpAny_holding (wpAny_truthy_bool ?_))
        refine wpAny_bind (wpAny_letGo ?_)
        simp only [if_true]
        have pk : ∀ b ∈ ps, ∀ o, s.heap.get? b = some o → s₁.heap.get? b = some o := fun b hb o e => (yd.inv.pin (b, o) (List.mem_append_right _ (mem_pinsAt hb e))).1
        have he : pinsAt ps s₁.heap = pinsAt ps s.heap := pinsAt_eq fun b hb => by
          obtain ⟨o, e⟩ := hps b hb
          rw [e, pk b hb o e]
        refine wpAny_pure ⟨plainId_quiet F.plain_all_loop _, ih i' H1 s₁ (fun b hb => (hps b hb).imp fun o e => pk b hb o e) ⟨⟨by rw [he]; exact yd.inv, yd.st, ?_⟩, yd.nfp, yd.gen, yd.go⟩⟩
        rw [hrd] at stp ⊢
        exact stp
      · obtain rfl : v = .bool false := r
        refine wpAny_bind (wpAny_holding (wpAny_truthy_bool ?_))
        refine wpAny_bind (wpAny_letGo ?_)
        simp only [Bool.false_eq_true, if_false]
        exact wpAny_bind (wpAny_rule (wpAny_pure (hR (.bl false) _ H1 _ rfl yd.inv.unpinned stp)))
    · exact wpAny_bind (wpAny_rule (wpAny_pure (hR (.bl true) _ H1 _ rfl I1.unpinned q)))
end
end PV

/-! part PV16 -/
/-! PV16: generator expressions: sum; the calls. -/
namespace PV
open PySem PySem.Spec PyProof.Rows L2 LamX NdefX

def rdS (S : Addr) (h : Heap) : Int := match h.get? S with
  | some o => match o.data with
    | .seq its _ => match (its[0]? : Option Value) with
      | some (Value.int x _) => x
      | _ => 0
    | _ => 0
  | none => 0
abbrev lsO (acc : Int) (tA : Tok) (c : Nat) : Obj := { cls := .type "list", dict := none, data := .seq #[.int acc tA] c, slots := #[] }
theorem rdS_of {S : Addr} {h : Heap} {acc : Int} {tA : Tok} {c : Nat} (e : h.get? S = some (lsO acc tA c)) : rdS S h = acc := by
  unfold rdS
  rw [e]
  rfl
section
variable {Xg : Cx} {A : Around} {a S : Addr} {j : Nat} {fp : List Addr} {tn : Nat → Heap → Prop} {W : Nat → Nat → Int → Hp → Prop} {σw : L2.St} {Q : VK} {s : Shared}
theorem sum_loop {R : Result → Shared → Prop} (hh : A.handled = none) (hroom : A.depth < recursionLimit) (haS : a ≠ S) (hSf : S ∉ fp) (haf : a ∉ fp) (own : OwnPl Xg [a, S]) (hpn : Xg.pn = [])
    (hkeep : ∀ i h h', tn i h → (∀ b ∈ fp, ∀ o, h.get? b = some o → h'.get? b = some o) → tn i h')
    (hR : ∀ r u H1 s', RelV r u → Inv Xg [] σw H1 s' → Q r H1 → R (.ok (.ret u)) s') :
    ∀ (n i : Nat) (H : Hp) (s : Shared) (acc : Int) (tA : Tok) (c : Nat) (st : Int), (st = 0 ∨ st = 2) → s.heap.get? S = some (lsO acc tA c) → GxSt Xg A.in1.in1 a j [a, S] fp tn (rdS S) W σw .sum Q i n H s →
      codeAny (model Xg.prog Xg.w) A (.builtin "sum.loop" ⟨[.ref a, .ref S, rawInt st, rawInt 0], []⟩) R s := by
  intro n
  induction n with
  | zero => intro i H s acc tA c st _ _ h; obtain ⟨m, hm, _⟩ := h.on.w; exact absurd hm (Nat.not_lt_zero _)
  | succ n ih =>
    intro i H s acc tA c st hst2 hS h
    have mS : S ∈ [a, S] := List.mem_cons_of_mem _ List.mem_cons_self
    refine codeAny_builtin F.entry_sum_loop ?_
    rw [Around.under_plainId F.plain_sum_loop _]
    show wpAny _ A.in1 (seqItems? (.ref S) >>= _) _ _ s
    refine wpAny_bind (wpAny_seqItems hS rfl ?_)
    show wpAny _ A.in1 (tryCatch (pyNext (.ref a)) _ >>= _) _ _ s
    refine wpAny_bind (wpAny_tryCatch (gx_next (A := A.in1) hh hroom List.mem_cons_self h (fun n' v y i' H1 s₁ en r yd => ?_) (fun H1 s₁ I1 q => ?_)))
    · cases en
      have stp := yd.step
      rw [rdS_of hS] at stp
      unfold gkStep at stp
      split at stp
      all_goals first | contradiction | skip
      rename_i jv e1
      obtain ⟨t, rfl⟩ := _root_.id r
      have hS' : s₁.heap.get? S = some (lsO acc tA c) := (yd.inv.pin (S, _) (List.mem_append_right _ (mem_pinsAt mS hS))).1
      obtain ⟨o, nm, qn, ho, g1, g2, g3⟩ := h.gen
      have ho1 : s₁.heap.get? a = some o := (yd.inv.pin (a, o) (List.mem_append_right _ (mem_pinsAt List.mem_cons_self ho))).1
      -- the turn's end
      have again : ∀ (h' : Heap) (tk : Nat) (tB : Tok) (c' : Nat), (∀ b ob, b ≠ S → s₁.heap.get? b = some ob → h'.get? b = some ob) → h'.get? S = some (lsO (acc + jv) tB c') → GxSt Xg A.in1.in1 a j [a, S] fp tn (rdS S) W σw .sum Q i' n H1 { s₁ with heap := h', toks := tk } := fun h' tk tB c' kp hS2 => by
        have I2 : Inv Xg (pinsAt [a, S] h') σw H1 { s₁ with heap := h', toks := tk } := inv_repin own hpn yd.inv (fun b hb => ?_) (fun b ob hb e => kp b ob (fun z => hb (by rw [z]; exact mS)) e) (fun b hb => ?_)
        · refine ⟨⟨I2, hkeep _ _ _ yd.st fun b hb ob e => kp b ob (fun z => hSf (by rw [← z]; exact hb)) e, ?_⟩, yd.nfp, ⟨o, nm, qn, kp a o haS ho1, g1, g2, g3⟩, yd.go⟩
          rw [rdS_of hS2]
          exact stp
        · rcases List.mem_cons.mp hb with z | z
          · rw [z]; exact ⟨o, ho⟩
          · rw [List.mem_singleton.mp z]; exact ⟨_, hS⟩
        · rcases List.mem_cons.mp hb with z | z
          · rw [z]; exact ⟨o, kp a o haS ho1, fun v e => by rw [g2] at e; cases e⟩
          · rw [List.mem_singleton.mp z]; exact ⟨_, hS2, fun v e => by cases e⟩
      have ot : ∀ {f : Obj → Obj} {b : Addr} {ob : Obj}, b ≠ S → s₁.heap.get? b = some ob → (s₁.heap.update S f).get? b = some ob := fun hb e => (Heap.get?_update_other _ _ (Ne.symm hb)).trans e
      rcases hst2 with rfl | rfl
      · show wpAny _ A.in1 (if (_ : Bool) = true then (mkInt (acc + jv) >>= _) else _) _ _ _
        split
        · refine wpAny_bind (wpAny_mkInt ?_)
          show wpAny _ A.in1 (updateSeq S (fun _ => #[.int (acc + jv) s₁.toks]) >>= _) _ _ _
          refine wpAny_bind ?_
          refine wpAny_updateSeq hS' rfl (wpAny_pure ⟨plainId_quiet F.plain_sum_loop _, ih i' H1 _ (acc + jv) s₁.toks _ 0 (.inl rfl) (Heap.get?_update_self _ hS' rfl) (again _ _ _ _ (fun b ob hb e => ot hb e) (Heap.get?_update_self _ hS' rfl))⟩)
        · refine wpAny_bind (wpAny_rule ?_)
          refine wpAny_bind (wpAny_attempt (wpAny_holding (wpAny_add_int ?_)))
          show wpAny _ A.in1 (updateSeq S (fun _ => #[.int (acc + jv) s₁.toks]) >>= _) _ _ _
          refine wpAny_bind (wpAny_updateSeq hS' rfl ?_)
          have hS₂ := Heap.get?_update_self (Obj.mapSeq fun _ => #[Value.int (acc + jv) s₁.toks]) hS' rfl
          refine wpAny_bind (wpAny_letGo ?_)
          refine wpAny_bind (wpAny_updateSeq hS₂ rfl (wpAny_pure ⟨plainId_quiet F.plain_sum_loop _, ih i' H1 _ (acc + jv) s₁.toks _ 2 (.inr rfl) (Heap.get?_update_self _ hS₂ rfl) (again _ _ _ _ (fun b ob hb e => ?_) (Heap.get?_update_self _ hS₂ rfl))⟩))
          exact (Heap.get?_update_other _ _ (Ne.symm hb)).trans (ot hb e)
      · show wpAny _ A.in1 ((holding [Value.int jv t] (binaryOp .Add (.int acc tA) (.int jv t))).attempt >>= _) _ _ _
        refine wpAny_bind (wpAny_attempt (wpAny_holding (wpAny_add_int ?_)))
        show wpAny _ A.in1 (updateSeq S (fun _ => #[.int (acc + jv) s₁.toks]) >>= _) _ _ _
        refine wpAny_bind (wpAny_updateSeq hS' rfl ?_)
        have hS₂ := Heap.get?_update_self (Obj.mapSeq fun _ => #[Value.int (acc + jv) s₁.toks]) hS' rfl
        refine wpAny_bind (wpAny_letGo ?_)
        refine wpAny_bind (wpAny_updateSeq hS₂ rfl (wpAny_pure ⟨plainId_quiet F.plain_sum_loop _, ih i' H1 _ (acc + jv) s₁.toks _ 2 (.inr rfl) (Heap.get?_update_self _ hS₂ rfl) (again _ _ _ _ (fun b ob hb e => ?_) (Heap.get?_update_self _ hS₂ rfl))⟩))
        exact (Heap.get?_update_other _ _ (Ne.symm hb)).trans (ot hb e)
    · rw [rdS_of hS] at q
      exact wpAny_pure (hR (.int acc) (.int acc tA) H1 _ ⟨tA, rfl⟩ I1.unpinned q)
end
end PV

/-! part PV17 -/
/-! PV17: any(..), all(..), sum(..) of a generator expression, as the text has it. -/
namespace PV
open PySem PySem.Spec PyProof.Rows L2 LamX NdefX

/-- the scope of a generator expression -/
structure GxOk (N : List Str) (sc scope : Scope) (own : List (Str × Nat)) : Prop where
  blk : BlkOk N sc scope own
  cell : ∀ y ∈ scope.names, y.2 ≠ .cell
  dot : scope.names.lookup (".0" : Str) = some NameKind.local
  co : scope.isCoroutine = false
def gkName : Gk → Str
  | .any => "any"
  | .all => "all"
  | .sum => "sum"
def gkB : Gk → String
  | .any => "any"
  | .all => "all"
  | .sum => "sum"
section
variable {X : Cx}
theorem over_gx {A : Around} {elt tg iter : Expr} {ifs : List Expr} {scope : Scope} {pos : Pos} {v acc : Value} {env : PySem.Env} : A.over (.compLoop (.GeneratorExp elt [⟨tg, iter, ifs, 0⟩] scope pos) 0 v acc env) [] = A.deeper env := by
  first
    | rfl
    | (obtain ⟨hd, d, fr, gs, u⟩ := A; simp [Around.over, Around.deeper, marksOver, frameCount, unitsOf, envsOf, guardsOf, pushEnvs, pushGuards, Code.envs, Code.env?, Code.isFrame, Code.guards, Code.isGuard, Code.weight, Code.frames, Code.isCreation, Code.isCaller, Code.cUnits])
theorem room_gx {k : Nat} {A : Around} (r : Room (k + 1) A) (env : PySem.Env) : Room k (A.in1.in1.deeper env) :=
  ⟨r.hd, by have := r.dp; show A.depth + 1 + 3 * k + 5 < _; omega, by have := r.un; show A.units + 1 + 1 + 3 + 16 * k + 200 < _; omega⟩
/-- what the making of generators asks of the running def -/
structure TabX (X : Cx) (T : List NTab) : Prop where
  go : ∃ c P nm, TabB X.base X.mg c P ∧ X.env.code = .ref c ∧ (P, nm) ∈ T ∧ (∀ p ∈ T, p.1 = P → p.2 = nm)
structure TabAt (X : Cx) (T : List NTab) (pos : Pos) (name : Str) : Prop where
  go : ∃ c P nm, TabB X.base X.mg c P ∧ X.env.code = .ref c ∧ (P, nm) ∈ T ∧ (∀ p ∈ T, p.1 = P → p.2 = nm) ∧ nm pos.line pos.col = X.env.qual ++ name
theorem pe_gx {T : List NTab} {gk : Gk} {k : Nat} {elt tg iter : Expr} {ifs : List Expr} {scope : Scope} {own : List (Str × Nat)} {p pos gpos : Pos} {wi : TI} {g : TG} {tt : TT} {te : TE}
    (hr : Room (k + 1) X.A) (hg : Gl X (gkName gk)) (hm : X.mg (gkName gk) = none) (TB : TabAt X T gpos "<genexpr>") (hc : X.calm = true) (hN : X.N.Nodup) (ok : GxOk X.N X.env.scope scope own) (hi : PI X tg iter wi) (hs : ∀ x, genFold iter X.env x = pure x)
    (pg : ∀ (A : Around) (s : Shared) (H : Hp) (C : Addr) (code : Value) (fp : List Addr), Room k A → PG (gxX X A s H scope C code fp) tg g) (pt : ∀ (A : Around) (s : Shared) (H : Hp) (C : Addr) (code : Value) (fp : List Addr), Room k A → PTs (gxX X A s H scope C code fp) ifs tt)
    (pe : ∀ (A : Around) (s : Shared) (H : Hp) (C : Addr) (code : Value) (fp : List Addr), Room k A → PE (gxX X A s H scope C code fp) elt te)
    (he : starEach [.GeneratorExp elt [⟨tg, iter, ifs, 0⟩] scope gpos] X.env = (false, eval (.GeneratorExp elt [⟨tg, iter, ifs, 0⟩] scope gpos) X.env) :: starEach [] X.env := by rfl) :
    PE X (.Call (.Name (gkName gk) p) [.GeneratorExp elt [⟨tg, iter, ifs, 0⟩] scope gpos] [] pos) (tGx T gk wi g tt te (own.map (·.2))) := by
  refine ⟨fun pins s σ H Q I h => ?_⟩
  obtain ⟨c, P, nm, TB, hcode, hmT, hu, hn⟩ := TB.go
  have hboot : bootBuiltins (gkName gk) = some (.builtin (gkB gk)) := by
    cases gk
    · exact boot_any
    · decide +kernel
    · decide +kernel
  have hdb : (gkName gk == ("__debug__" : Str)) = false := by cases gk <;> decide
  have hnn : gkName gk ≠ "__name__" := by cases gk <;> decide
  refine wpAny_Call_Name_kw (ld_blt I hg hm hboot ?_ hnn hdb)
  refine PyProof.Rows.callWith_builtin1 ?_ he (by rfl)
  rw [he]
  show wpAny _ _ (spliced ((false, eval (.GeneratorExp elt [⟨tg, iter, ifs, 0⟩] scope gpos) X.env) :: backTo pos (starEach [] X.env))) _ _ s
  refine Calls.spliced_cons (gx_make (R := fun J H1 => ∀ H2, ExtN H1 H2 → (∀ b, H2 b = none → H1 b = none) → TabsN T H2 → ∃ W : Nat → Nat → Int → Hp → Prop, (∃ m, W 0 m 0 H2) ∧ GxW gk J g tt te (own.map (fun q : Str × Nat => q.2)) σ Q W) hr TB hcode hmT hn hu ok.blk ok.cell ok.dot ok.co hi hs I h
    fun J H1 H2 it fp tn a code s4 h5 tk hR eN nN T2 Tn st5 I4 f4 ha hao hgen kp hns => ?_)
  obtain ⟨W, ⟨m0, w0⟩, hW⟩ := hR H2 eN nN T2
  obtain ⟨m5, hns⟩ := hns
  refine Calls.spliced_nil ?_
  generalize hgs : GenState.fresh (.compStart (.GeneratorExp elt [⟨tg, iter, ifs, 0⟩] scope gpos) 0 (.ref it) .none (gxE X scope s4.heap.objs.size code)) = gs0
  have hbare : gs0.bare = true := by rw [← hgs]; rfl
  have r2 : Room k (X.A.in1.in1.deeper (gxE X scope s4.heap.objs.size code)) := room_gx hr _
  generalize hXg : gxX X (X.A.in1.in1.deeper (gxE X scope s4.heap.objs.size code)) s4 H2 scope s4.heap.objs.size code fp = Xg
  have I5 : Inv Xg [] (wipe σ (own.map (·.2))) H2 { s4 with heap := h5, gens := s4.gens.push gs0, toks := tk } := by
    rw [← hXg]
    exact gx_start I4 ok.blk ok.cell hN f4 hr.hd (Around.frames_deeper I4.ok.frames) (Nat.le_refl _) hns kp (I4.bare.push hbare)
  have env_eq : Xg.env = gxE X scope s4.heap.objs.size code := by rw [← hXg]
  have prog_eq : Xg.prog = X.prog := by rw [← hXg]
  have w_eq : Xg.w = X.w := by rw [← hXg]
  have K_eq : Xg.K = X.K := by rw [← hXg]
  have hA : Xg.A = X.A.in1.in1.over (.compLoop (.GeneratorExp elt [⟨tg, iter, ifs, 0⟩] scope gpos) 0 (.ref it) .none Xg.env) [] := by rw [over_gx, ← hXg]
  have hxe : Xg.xe = fun _ _ => False := by rw [← hXg]
  have hcg : Xg.calm = true := by rw [← hXg]; exact hc
  have hcog : Xg.env.scope.isCoroutine = false := by rw [← hXg]; exact ok.co
  have hex : Xg.ex = fp := by rw [← hXg]
  have hpn : Xg.pn = [] := by rw [← hXg]
  have pgg : PG Xg tg g := by rw [← hXg]; exact pg _ _ _ _ _ _ r2
  have ptg : PTs Xg ifs tt := by rw [← hXg]; exact pt _ _ _ _ _ _ r2
  have peg : PE Xg elt te := by rw [← hXg]; exact pe _ _ _ _ _ _ r2
  have hs0 : Xg.s_0 = s4 := by rw [← hXg]
  have hloc : Xg.env.locals = s4.heap.objs.size := by rw [← hXg]; rfl
  have hfsE : Xg.fs = frs X.stack := by rw [← hXg]
  have Tg : Turn Xg.prog Xg.w Xg.K tg J fp it tn := by rw [← hXg]; exact Tn
  have cells : ∀ x c, Xg.env.cells.lookup x = some c → c < s4.heap.objs.size := fun x c e => by
    obtain ⟨v, z⟩ := I5.cell x c e
    have hlt : ∀ y ∈ scope.names, y.2 = .free → ∃ c, X.env.cells.lookup y.1 = some c := fun y hy e => by
      rcases ok.blk.free y hy e with k | k
      · exact I4.ok.has _ (.inl k)
      · exact I4.ok.has _ (.inr k)
    rw [env_eq] at e
    have e : (cloFrom X.env.cells scope.names []).lookup x = some c := e
    rcases cloFrom_mem (PySem.mem_of_lookup e) with hm | ⟨h1, h2⟩
    · cases hm
    · obtain ⟨c1, hc⟩ := hlt _ h1 rfl
      have hc : X.env.cells.lookup x = some c1 := hc
      have e2 : c = c1 := by
        rw [h2, hc] <;> rfl
      rw [e2]
      obtain ⟨w, z⟩ := I4.cell _ _ hc
      exact z.lt
  have stkLt : ∀ b ∈ frs X.stack, b < s4.heap.objs.size := fun b hb => by
    obtain ⟨_, o, ho, _⟩ := I4.stack.mem hb
    exact Heap.lt_size ho
  have ownP : ∀ b, s4.heap.objs.size < b → Xg.s_0.heap.objs.size ≤ b ∧ b ≠ Xg.env.locals ∧ ∀ x c, Xg.env.cells.lookup x = some c → c ≠ b := fun b hb =>
    ⟨by rw [hs0]; exact Nat.le_of_lt hb, by rw [hloc]; exact Nat.ne_of_gt hb, fun x c e => Nat.ne_of_lt (Nat.lt_trans (cells x c e) hb)⟩
  have pinP : ∀ {b : Addr} {o : Obj} {h : Heap}, s4.heap.objs.size < b → h.get? b = some o → (∀ v, o.data ≠ .cell v) → h.get? b = some o ∧ H2 b = none ∧ b ≠ Xg.env.locals ∧ b ∉ Xg.fs ∧ ∀ v, o.data ≠ .cell v := fun {b o h} hb e d =>
    ⟨e, I4.hok.fresh (Nat.le_of_lt hb), by rw [hloc]; exact Nat.ne_of_gt hb, fun z => by rw [hfsE] at z; exact absurd (Nat.lt_trans hb (stkLt b z)) (Nat.lt_irrefl _), d⟩
  obtain ⟨oa, hoa, hod⟩ := hao
  have haf : a ∉ fp := fun z => absurd (Nat.lt_trans ha (f4 a z).2) (Nat.lt_irrefl _)
  have nfp : ∀ b ∈ fp, H2 b = none := fun b hb => (f4 b hb).1.1
  have fin : ∀ (r : V) (u : Value) (H1 : Hp) (s' : Shared), RelV r u → Inv Xg [] (wipe σ (own.map (·.2))) H1 s' → Q r H1 → EP X pins σ Q u s' := fun r u H1 s' rv I' q => by
    refine ⟨r, H1, ?_, rv, q⟩
    rw [← hXg] at I'
    exact I4.call' (ch := fp) I'.os I'.base I'.hok I'.bare fun b hb => ⟨(f4 b hb).1.2.2.2.1, (f4 b hb).1.2.1, (f4 b hb).1.2.2.2.2.1, (f4 b hb).1.2.2.2.2.2⟩
  have hgsA : (s4.gens.push gs0)[s4.gens.size]? = some gs0 := Array.getElem?_push_size ..
  have first : ∀ (ps : List Addr) (rd : Heap → Int), (∀ b ∈ ps, b ∉ fp) → ∀ s'', GxOn Xg ps fp tn rd W (wipe σ (own.map (·.2))) 0 (m0 + 1) H2 s'' → gs0.Goes (model Xg.prog Xg.w) X.A.in1.in1 (gxR Xg ps rd (wipe σ (own.map (·.2))) gk Q) (gxY Xg ps fp tn rd W (wipe σ (own.map (·.2))) gk Q) (m0 + 1) (.send .none) s'' := fun ps rd hf s'' on => by
    rw [← hgs, ← env_eq]
    exact gx_first hA hxe hcg hcog hex hpn hf Tg pgg ptg peg hW nfp on
  have pinA : ∀ (q : Addr × Obj), q ∈ pinsAt [a] h5 → h5.get? q.1 = some q.2 ∧ H2 q.1 = none ∧ q.1 ≠ Xg.env.locals ∧ q.1 ∉ Xg.fs ∧ ∀ v, q.2.data ≠ .cell v := fun q hq => by
    obtain ⟨hb, e⟩ := of_pinsAt hq
    have hb : q.1 = a := List.mem_singleton.mp hb
    refine pinP (by rw [hb]; exact ha) e fun v z => ?_
    rw [hb, hoa] at e
    cases e
    exact hod v z
  have stA : GxSt Xg X.A.in1.in1 a s4.gens.size [a] fp tn (fun _ => 0) W (wipe σ (own.map (·.2))) gk Q 0 (m0 + 1) H2 { s4 with heap := h5, gens := s4.gens.push gs0, toks := tk } :=
    ⟨⟨I5.pins_of pinA, st5, m0, Nat.lt_succ_self _, w0⟩, nfp, hgen, gs0, hgsA, first [a] (fun _ => 0) fun b hb => by rw [List.mem_singleton.mp hb]; exact haf⟩
  rw [← prog_eq, ← w_eq]
  cases gk with
  | any =>
    refine call_function_tree F.kind_any F.plain_any F.entry_any (F.args_any1 _) ?_
    unfold Builtin.«any»
    refine wpAny_bind (m := oneArg "any" _) (wpAny_pure ?_)
    refine wpAny_bind (wpAny_pyIter_gen hgen ?_)
    exact wpAny_pure ⟨plainId_quiet F.plain_any_loop _, any_loop (s := { s4 with heap := h5, gens := s4.gens.push gs0, toks := tk }) hr.hd hr.depth List.mem_cons_self (fun _ => rfl) (fun b hb => by rw [List.mem_singleton.mp hb]; exact ⟨oa, hoa⟩) fin (m0 + 1) 0 H2 _ (fun b hb => by rw [List.mem_singleton.mp hb]; exact ⟨oa, hoa⟩) stA⟩
  | all =>
    refine call_function_tree F.kind_all F.plain_all F.entry_all (F.args_all1 _) ?_
    unfold Builtin.«all»
    refine wpAny_bind (m := oneArg "all" _) (wpAny_pure ?_)
    refine wpAny_bind (wpAny_pyIter_gen hgen ?_)
    exact wpAny_pure ⟨plainId_quiet F.plain_all_loop _, all_loop (s := { s4 with heap := h5, gens := s4.gens.push gs0, toks := tk }) hr.hd hr.depth List.mem_cons_self (fun _ => rfl) (fun b hb => by rw [List.mem_singleton.mp hb]; exact ⟨oa, hoa⟩) fin (m0 + 1) 0 H2 _ (fun b hb => by rw [List.mem_singleton.mp hb]; exact ⟨oa, hoa⟩) stA⟩
  | sum =>
    refine call_function_tree F.kind_sum F.plain_sum F.entry_sum (F.args_sum1 _) ?_
    unfold Builtin.«sum»
    simp only [List.length_cons, List.length_nil]
    rw [if_neg (by decide)]
    refine wpAny_bind (wpAny_of_eq (show Builtin.Builtins.bindParams "sum" ["start"] 0 { } = pure [none] from rfl) ?_)
    refine wpAny_bind (wpAny_pyIter_gen hgen ?_)
    refine wpAny_bind (wpAny_mkInt ?_)
    refine wpAny_bind (wpAny_pure ?_)
    simp only [List.forIn_cons, List.forIn_nil]
    refine wpAny_bind (wpAny_bind (wpAny_bind (wpAny_isInstance (T := "int") (b := false) (typeIs_int _ _ _) PySem.sub_int_str ?_)))
    simp only [Bool.false_eq_true, if_false]
    refine wpAny_pure (wpAny_bind (wpAny_bind (wpAny_isInstance (T := "int") (b := false) (typeIs_int _ _ _) PySem.sub_int_bytes ?_)))
    simp only [Bool.false_eq_true, if_false]
    refine wpAny_pure (wpAny_bind (wpAny_bind (wpAny_isInstance (T := "int") (b := false) (typeIs_int _ _ _) PySem.sub_int_bytearray ?_)))
    simp only [Bool.false_eq_true, if_false]
    refine wpAny_pure (wpAny_pure ?_)
    refine wpAny_bind (wpAny_newObj_type ?_)
    have ha5 : a < h5.objs.size := Heap.lt_size hoa
    have hS4 : s4.heap.objs.size < h5.objs.size := Nat.lt_trans ha ha5
    have haS : a ≠ h5.objs.size := Nat.ne_of_lt ha5
    have szf : ∀ b ∈ fp, b < h5.objs.size := fun b hb => Nat.lt_trans (f4 b hb).2 hS4
    have hSf : h5.objs.size ∉ fp := fun hm => Nat.lt_irrefl _ (szf _ hm)
    generalize hoS : lsO 0 tk 0 = oS
    have hS6 : (h5.push oS).get? h5.objs.size = some oS := Heap.get?_push_size _ (by rw [← hoS]; rfl)
    have kp6 : ∀ b o, h5.get? b = some o → (h5.push oS).get? b = some o := fun b o e => Heap.get?_push_of_some _ e
    have I6 : Inv Xg [] (wipe σ (own.map (·.2))) H2 { s4 with heap := h5.push oS, gens := s4.gens.push gs0, toks := tk + 1 } := I5.kept (h' := h5.push oS) (t' := tk + 1) kp6
    have pinS : ∀ (q : Addr × Obj), q ∈ pinsAt [a, h5.objs.size] (h5.push oS) → (h5.push oS).get? q.1 = some q.2 ∧ H2 q.1 = none ∧ q.1 ≠ Xg.env.locals ∧ q.1 ∉ Xg.fs ∧ ∀ v, q.2.data ≠ .cell v := fun q hq => by
      obtain ⟨hb, e⟩ := of_pinsAt hq
      rcases List.mem_cons.mp hb with hb | hb
      · refine pinP (by rw [hb]; exact ha) e fun v z => ?_
        rw [hb, kp6 _ _ hoa] at e
        cases e
        exact hod v z
      · have hb : q.1 = h5.objs.size := List.mem_singleton.mp hb
        refine pinP (by rw [hb]; exact hS4) e fun v z => ?_
        rw [hb, hS6, ← hoS] at e
        have e := Option.some.inj e
        rw [← e] at z
        cases z
    have rd0 : rdS h5.objs.size (h5.push oS) = 0 := rdS_of (by rw [hS6, ← hoS])
    have stS : GxSt Xg X.A.in1.in1 a s4.gens.size [a, h5.objs.size] fp tn (rdS h5.objs.size) W (wipe σ (own.map (·.2))) .sum Q 0 (m0 + 1) H2 { s4 with heap := h5.push oS, gens := s4.gens.push gs0, toks := tk + 1 } :=
      ⟨⟨I6.pins_of pinS, Tn.keep _ _ _ st5 fun b _ o e => kp6 b o e, m0, Nat.lt_succ_self _, by show W 0 m0 (rdS h5.objs.size (h5.push oS)) H2; rw [rd0]; exact w0⟩, nfp, hgen.push oS, gs0, hgsA, first [a, h5.objs.size] (rdS h5.objs.size) fun b hb => by
        rcases List.mem_cons.mp hb with hb | hb
        · rw [hb]; exact haf
        · rw [List.mem_singleton.mp hb]; exact hSf⟩
    refine wpAny_pure ⟨plainId_quiet F.plain_sum_loop _, ?_⟩
    have l := sum_loop (Xg := Xg) (A := X.A) (a := a) (S := h5.objs.size) (j := s4.gens.size) (fp := fp) (tn := tn) (W := W) (σw := wipe σ (own.map (·.2))) (Q := Q) (R := fun r s' => match r with | .ok (.ret v) => EP X pins σ Q v s' | .ok _ => False | .error e => X.xe e s') hr.hd hr.depth haS hSf haf (fun b hb => by
        rcases List.mem_cons.mp hb with hb | hb
        · rw [hb]; exact ownP a ha
        · rw [List.mem_singleton.mp hb]; exact ownP _ hS4) hpn (fun i h h' t k => Tn.keep i h h' t k) fin (m0 + 1) 0 H2 { s4 with heap := h5.push oS, gens := s4.gens.push gs0, toks := tk + 1 } 0 tk 0 0 (.inl rfl) (by rw [← hoS] at hS6 ⊢; exact hS6) stS
    rw [← hoS] at l
    refine codeAny_mono l fun r s' hr' => ?_
    cases r with
    | ok f => cases f with
      | ret v => exact hr'
      | _ => exact hr'
    | error e => exact hr'
end
end PV

/-! part PV18 -/
/-! PV18: list comprehensions. -/
noncomputable section
namespace PV
open PySem L2 LamX NdefX

/-- tests of a clause -/
def tTs (G : Gx) (P : Pr) (W : WX) (es : List E) : TT := fun σ H Q => ∃ w ρ Os st, Gd G w H σ ρ Os st ∧ Out G BR w H (evT P es ρ st) (WS W σ) Q
def DTs (X : Cx) (G : Gx) (P : Pr) (ps : List Expr) (es : List E) : Prop := ∀ W, TkM P.nm X W → PTs X ps (tTs G P W es)
section
variable {X : Cx} {G : Gx} {P : Pr}
theorem imTs {ps : List Expr} {t t' : TT} (h : PTs X ps t) (i : ∀ σ H Q, t' σ H Q → t σ H Q) : PTs X ps t' := ⟨fun pins s σ H Q I q => h.run pins s σ H Q I (i σ H Q q)⟩
theorem dts_nil : DTs X G P [] [] := fun W _ => imTs pts_nil fun σ H Q ⟨w, ρ, Os, st, g, o⟩ => by
  rw [evT] at o
  exact bo_fin o (Po.refl _ _) g.s
end
/-! slots forgotten -/
def wipeO (Os : List (List Addr)) : List Nat → List (List Addr)
  | [] => Os
  | v :: vs => (wipeO Os vs).set v []
section
variable {G : Gx} {w : Wd} {H : Hp}
theorem Gd.wipe {σ : L2.St} {ρ : Env} {Os : List (List Addr)} {st : Sto} (g : Gd G w H σ ρ Os st) : ∀ vs : List Nat, Gd G w H (wipe σ vs) (wipeE ρ vs) (wipeO Os vs) st
  | [] => g
  | v :: vs => (Gd.wipe g vs).wipe1 v
theorem wipeO_mem {a : Addr} {Os : List (List Addr)} : ∀ {vs : List Nat}, a ∈ (wipeO Os vs).flatten → a ∈ Os.flatten
  | [], h => h
  | v :: vs, h => (mem_setO h).elim (fun z => nomatch z) wipeO_mem
theorem wipe_at {σ : L2.St} {i : Nat} : ∀ {vs : List Nat}, i ∉ vs → (wipe σ vs)[i]? = σ[i]?
  | [], _ => rfl
  | v :: vs, h => by
    unfold wipe
    rw [List.getElem?_set_ne (fun e => h (by rw [e]; exact List.mem_cons_self))]
    exact wipe_at fun z => h (List.mem_cons_of_mem _ z)
theorem wipe_in {σ : L2.St} {i : Nat} : ∀ {vs : List Nat}, i ∈ vs → i < σ.length → (wipe σ vs)[i]? = some none
  | v :: vs, h, hl => by
    unfold wipe
    by_cases e : v = i
    · subst e
      rw [List.getElem?_set_self (by rw [wipe_length]; exact hl)]
    · rw [List.getElem?_set_ne e]
      exact wipe_in ((List.mem_cons.mp h).resolve_left (Ne.symm e)) hl
theorem Sm.wipe {vs : List Nat} {σ σ1 : L2.St} (h : Sm vs σ σ1) : wipe σ1 vs = wipe σ vs := by
  refine List.ext_getElem? fun i => ?_
  by_cases c : i ∈ vs
  · by_cases l : i < σ.length
    · rw [wipe_in c l, wipe_in c (by rw [← h.len]; exact l)]
    · rw [List.getElem?_eq_none (by rw [wipe_length, ← h.len]; omega), List.getElem?_eq_none (by rw [wipe_length]; omega)]
  · rw [wipe_at c, wipe_at c, h.at' i c]
theorem wipe_wipe {σ : L2.St} (vs : List Nat) : wipe (wipe σ vs) vs = wipe σ vs := by
  refine List.ext_getElem? fun i => ?_
  by_cases c : i ∈ vs
  · by_cases l : i < σ.length
    · rw [wipe_in c l, wipe_in c (by rw [wipe_length]; exact l)]
    · rw [List.getElem?_eq_none (by rw [wipe_length, wipe_length]; omega), List.getElem?_eq_none (by rw [wipe_length]; omega)]
  · rw [wipe_at c]
theorem VRs.snoc {l : Nat} {d : D} {v : V} {O2 : List Addr} (n : isR d = false) (h2 : VR G w H l O2 d v) : ∀ {O : List Addr} {ds : List D} {vs : List V}, VRs G w H l O ds vs → VRs G w H l (O ++ O2) (ds ++ [d]) (vs ++ [v])
  | _, _, _, .nil => by simpa using VRs.cons n h2 .nil
  | _, _, _, .cons n1 h hs => by
    rw [List.append_assoc]
    exact .cons n1 h (VRs.snoc n h2 hs)
end
/-- a result that has come -/
theorem Out.of {α β : Type} {G : Gx} {Rel : Wd → Hp → Hp → α → β → Prop} {w : Wd} {H : Hp} {r : R α} {a : α} {st' : Sto} {W : XK} {Q : β → Hp → Prop} (e : r = .ok a st') (k : ∀ b w' H', Po w H w' H' → St G w' H' st' → Rel w' H' H a b → Q b H') : Out G Rel w H r W Q := by
  rw [e]; exact k
theorem Out.calm {α γ δ : Type} {G : Gx} {Rel2 : Wd → Hp → Hp → γ → δ → Prop} {w : Wd} {H : Hp} {m : M α} {f : α → M γ} {st : Sto} {W : XK} {Q : δ → Hp → Prop} (h : Out G Rel2 w H ((PV.calm m >>= f) st) W Q) : ∃ a s1, m st = .ok a s1 ∧ Out G Rel2 w H (f a s1) W Q := by
  have e : (PV.calm m >>= f) st = match PV.calm m st with
    | .ok a s1 => f a s1
    | .ex c p s1 => .ex c p s1
    | .no => .no := rfl
  rw [e] at h
  unfold PV.calm at h
  cases q : m st with
  | ok a s1 => rw [q] at h; exact ⟨a, s1, rfl, h⟩
  | ex c d s1 => rw [q] at h; exact h.elim
  | no => rw [q] at h; exact h.elim
theorem M.ofO_ok {α : Type} {o : Option α} {a : α} {st s1 : Sto} (h : PV.ofO o st = .ok a s1) : o = some a ∧ s1 = st := by
  cases o with
  | none => cases h
  | some b => cases h; exact ⟨rfl, rfl⟩
def lcM (P : Pr) (elt : E) (tg : Tg) (ifs : List E) (ρ : Env) (acc : List D) (d : D) : M (List D) := do
  let ρ1 ← PV.ofO (bindT tg d (wipeE ρ (tgV tg)))
  let t ← evT P ifs ρ1
  if t then do
    let y ← evE P elt ρ1
    let y ← putL (lvE elt) y
    pure (acc ++ [y])
  else pure acc
theorem evE_lc {P : Pr} {elt : E} {tg : Tg} {ik : Ik} {src ifs : List E} {ρ : Env} : evE P (.lc elt tg ik src ifs) ρ = evI P ik src ρ >>= fun ds => foldM (fun acc d => calm (lcM P elt tg ifs ρ acc d)) ds [] >>= fun ys => pure (.fr (lvE elt + 1), .lst ys) := by
  rw [evE]
  unfold evI
  rw [M.assoc]
  rfl
theorem foldM_cons {α β : Type} {f : β → α → M β} {a : α} {as : List α} {b : β} : foldM f (a :: as) b = f b a >>= fun b1 => foldM f as b1 := rfl
theorem foldM_nil {α β : Type} {f : β → α → M β} {b : β} : foldM f [] b = pure b := rfl
theorem putL_ok {l : Nat} {x : KD} {y : D} {st s1 : Sto} (h : putL l x st = .ok y s1) : putLB l x = true ∧ y = x.2 ∧ s1 = st := by
  unfold putL at h
  cases e : putLB l x with
  | true => rw [e] at h; cases h; exact ⟨rfl, rfl, rfl⟩
  | false => rw [e] at h; cases h
/-- an item that goes in: its places, new ones -/
theorem KR.put {G : Gx} {Os : List (List Addr)} {w : Wd} {H H0 : Hp} {l : Nat} {x : KD} {v : V} (h : KR G Os w H H0 x v) (hp : putLB l x = true) :
    isR x.2 = false ∧ ∃ O F, Own w H H0 F ∧ VR G (w.frz F) H l O x.2 v ∧ O.Nodup ∧ (∀ a ∈ O, H0 a = none ∧ a ∉ w.O) := by
  obtain ⟨k, d⟩ := x
  unfold putLB at hp
  simp only [Bool.and_eq_true, Bool.or_eq_true, Bool.not_eq_true', beq_iff_eq] at hp
  obtain ⟨hr, hp⟩ := hp
  refine ⟨hr, ?_⟩
  rcases hp with ⟨hk, hl⟩ | ⟨hk, hl⟩
  · obtain ⟨O, own, f⟩ := h.sees hk
    refine ⟨[], O, own, ?_, List.nodup_nil, fun a z => nomatch z⟩
    have q := f O fun _ z => z
    rcases hl with hl | hl
    · subst hl; exact .zero q
    · exact .nc hl q
  · have triv : ∀ {O : List Addr} {l' : Nat}, VR G w H l' O d v → VR G (w.frz []) H l' O d v := fun hv => hv.apart fun a _ z => nomatch z
    cases k with
    | fz => simp at hk
    | bo l' => simp at hk
    | lk => simp at hk
    | an =>
      obtain ⟨O, hv, hn, hO⟩ := h
      cases l with
      | zero => simp at hl
      | succ l => exact ⟨O, [], Own.nil, triv (hv l), hn, hO⟩
    | fr l' =>
      have e : l' = l := by simpa using hk
      subst e
      obtain ⟨O, hv, hn, hO⟩ := h
      exact ⟨O, [], Own.nil, triv hv, hn, hO⟩

section
variable {X : Cx} {G : Gx} {P : Pr} {pos : Pos}
theorem lc_imp {elt : E} {tg : Tg} {ik : Ik} {src ifs : List E} {W : WX} {σ : L2.St} {H : Hp} {Q : VK} (h : tE G P W (.lc elt tg ik src ifs) σ H Q) :
    tLc (tI G P W ik src) (tG G tg) (tTs G P (fun _ _ _ _ => False) ifs) (tE G P (fun _ _ _ _ => False) elt) (tgV tg) σ H Q := by
    obtain ⟨w, ρ, Os, st, g, ot⟩ := h
    rw [evE_lc] at ot
    refine ⟨w, ρ, Os, st, g, Out.bind (Po.refl _ _) ot fun ds s1 J w1 H1 p1 st1 ⟨wk, hz⟩ o1 => ?_⟩
    intro B hB
    have g1 := g.po p1 st1
    have fB := st1.wf.free hB
    have thB : ∀ {a : Addr}, H1 a ≠ none → a ≠ B := fun h e => h (by rw [e]; exact hB)
    let Inv' : Nat → Hp → Prop := fun i Hc => ∃ wc stc acc accV O, i ≤ ds.length ∧ Po w1 H1 wc Hc ∧ Gd G wc Hc (wipe σ (tgV tg)) (wipeE ρ (tgV tg)) (wipeO Os (tgV tg)) stc ∧ Hc B = some (.lst accV) ∧ ¬ wc.F B ∧ B ∉ wc.ρ ∧ B ∉ wc.O ∧ VRs G wc Hc (lvE elt) O acc accV ∧ (B :: O).Nodup ∧
      (∀ a ∈ O, H1 a = none ∧ a ∉ wc.O) ∧ acc.length ≤ i ∧ Out G (KR G Os) w H ((foldM (fun acc d => PV.calm (lcM P elt tg ifs ρ acc d)) (ds.drop i) acc >>= fun ys => pure (.fr (lvE elt + 1), .lst ys)) stc) (WS W σ) Q
    refine ⟨fun i m Hc => m = ds.length - i ∧ Inv' i Hc, ⟨_, rfl, w1, s1, [], [], [], Nat.zero_le _, newPo hB, (g1.po (newPo hB) (st1.new hB)).wipe _, upd_same, fB.1, fB.2.1, fB.2.2, .nil, by simp, (fun a z => nomatch z), Nat.le_refl _, by simpa using o1⟩, ?_⟩
    rintro i m Hc ⟨rfl, wc, stc, acc, accV, O, hi', pc, gc, hBc, nF, nR, nO, hv, nd, nw, hlen, oc⟩
    by_cases hlt : i < ds.length
    · refine .inr ⟨wk.go wc Hc i pc hlt, fun H' => Inv' (i + 1) H', fun H' q => ⟨_, by omega, rfl, q⟩, fun x H' y => ?_⟩
      have hd : ds[i]? = some ds[i] := List.getElem?_eq_getElem hlt
      obtain ⟨w2, p2, st2, fx⟩ := wk.yld wc Hc stc i ds[i] x H' pc gc.s hd y
      rw [List.drop_eq_getElem_cons hlt, foldM_cons, M.assoc] at oc
      obtain ⟨acc', st3, e3, oc⟩ := oc.calm
      unfold lcM at e3
      obtain ⟨ρ1, s4, q4, e3a⟩ := M.of_bind e3
      obtain ⟨e4, q5⟩ := M.ofO_ok q4
      subst q5
      obtain ⟨t, s5, e5, e3b⟩ := M.of_bind e3a
      clear e3 e3a q4
      have g2 := gc.po p2 st2
      -- the list and its items, carried on
      have carry : ∀ {w' : Wd} {H'' : Hp}, Po wc Hc w' H'' → H'' B = some (.lst accV) ∧ ¬ w'.F B ∧ B ∉ w'.ρ ∧ B ∉ w'.O ∧ VRs G w' H'' (lvE elt) O acc accV ∧ ∀ a ∈ O, H1 a = none ∧ a ∉ w'.O := fun {w' H''} p =>
        ⟨p.keep B _ hBc nR nO (fun ps e => by cases e), (fun z => (p.fn B z).elim nF fun e => e.no hBc (fun _ z => by cases z) fun _ z => by cases z), p.out (by rw [hBc]; simp) nR, p.outO (by rw [hBc]; simp) nO, hv.po gc.s.wf p (fun a h => (nw a h).2), fun a h => ⟨(nw a h).1, p.outO (hv.there a h).1 (nw a h).2⟩⟩
      refine ⟨w2, _, _, _, _, ρ1, g2, fx, e4, fun σ1 Os1 g3 sm sub => ⟨(sm.wipe).trans (wipe_wipe _), ?_⟩⟩
      have same : ∀ {w' : Wd} {H'' : Hp} {sx : Sto}, Po w2 H' w' H'' → St G w' H'' sx → Gd G w' H'' (wipe σ (tgV tg)) (wipeE ρ (tgV tg)) (wipeO Os (tgV tg)) sx := fun p s => g2.po p s
      refine ⟨w2, ρ1, Os1, _, g3, Out.of e5 fun b w4 H4 p4 s4' rb => ?_⟩
      obtain rfl : t = b := rb
      have g4 := g3.po p4 s4'
      have p14 := p2.trans p4
      cases t with
      | false =>
        rw [if_neg Bool.false_ne_true]
        rw [if_neg Bool.false_ne_true] at e3b
        cases e3b
        obtain ⟨c1, c2, c3, c4, c5, c6⟩ := carry p14
        exact ⟨w4, _, acc, accV, O, hlt, pc.trans p14, same p4 s4', c1, c2, c3, c4, c5, nd, c6, by omega, oc⟩
      | true =>
        rw [if_pos rfl]
        rw [if_pos rfl] at e3b
        obtain ⟨yk, s6, e6, e3c⟩ := M.of_bind e3b
        obtain ⟨y', s7, e7, e3d⟩ := M.of_bind e3c
        obtain ⟨hp, q7, q8⟩ := putL_ok e7
        subst q7 q8
        cases e3d
        refine ⟨w4, ρ1, Os1, _, g4, Out.of e6 fun v w5 H5 p5 s5' kv => ?_⟩
        have p15 := p14.trans p5
        obtain ⟨nr, O2, F, own2, hv2, nd2, nw2⟩ := kv.put hp
        have pF : Po wc Hc (w5.frz F) H5 := p15.frz fun a z => p14.th a (own2 a z).1
        have sF := s5'.frz own2
        obtain ⟨c1, c2, c3, c4, c5, c6⟩ := carry pF
        have hB5 : ¬ (w5.frz F).F B := c2
        refine ⟨accV, c1, ?_, ?_⟩
        · have := hv.length
          omega
        have o2new : ∀ a ∈ O2, Hc a = none := fun a z => p14.th a (nw2 a z).1
        have BO2 : B ∉ O2 := fun z => by have q := o2new B z; rw [hBc] at q; cases q
        have BO : B ∉ O := (List.nodup_cons.mp nd).1
        have mv : Mv (w5.frz F) H5 (upd H5 B (.lst (accV ++ [v]))) B := Mv.of c2 c3 c4
        have pw : Po w1 H1 (w5.frz F) (upd H5 B (.lst (accV ++ [v]))) := (pc.trans pF).mv hB c1
        have sm2 := sF.mv c1 mv
        have pall : Po w2 H' (w5.frz F) H5 := (p4.trans p5).frz fun a z => p4.th a (own2 a z).1
        have gw := g2.po pall sF
        have Bos : B ∉ (wipeO Os (tgV tg)).flatten := fun z => (g1.sl.there B (wipeO_mem z)).1 hB
        refine ⟨w5.frz F, _, acc ++ [yk.2], accV ++ [v], O ++ O2, hlt, pw, ⟨sm2, gw.sl.mv mv Bos, gw.nd, gw.ap⟩, upd_same, c2, c3, c4, ?_, ?_, ?_, by simp; omega, oc⟩
        · exact VRs.mv mv (VRs.snoc nr hv2 c5) fun z => (List.mem_append.mp z).elim BO BO2
        · rw [List.nodup_cons]
          refine ⟨fun z => (List.mem_append.mp z).elim BO BO2, List.nodup_append.mpr ⟨(List.nodup_cons.mp nd).2, nd2, fun a z b z' e => ?_⟩⟩
          subst e
          exact (hv.there a z).1 (o2new a z')
        · intro a z
          rcases List.mem_append.mp z with z | z
          · exact c6 a z
          · exact ⟨pc.th a (o2new a z), (nw2 a z).2⟩
    · have hi2 : i = ds.length := by omega
      subst hi2
      refine .inl ⟨wk.stop wc Hc _ pc (Nat.le_refl _), ?_⟩
      rw [List.drop_of_length_le (Nat.le_refl _), foldM_nil] at oc
      refine Out.fin (Rel := KR G Os) oc (p1.trans pc) gc.s ⟨B :: O, .lst hBc nF nR hv, nd, fun a z => ?_⟩
      rcases List.mem_cons.mp z with z | z
      · rw [z]; exact ⟨p1.th B hB, nO⟩
      · exact ⟨p1.th a (nw a z).1, (nw a z).2⟩
theorem de_lc {pelt ptg pit : Expr} {pifs : List Expr} {elt : E} {tg : Tg} {ik : Ik} {src ifs : List E} {scope : Scope} {own : List (Str × Nat)} (hc : X.calm = true) (hN : X.N.Nodup) (hi : DI X G P ptg pit ik src) (ok : BlkOk X.N X.env.scope scope own) (ho : own.map (·.2) = tgV tg)
    (hg : ∀ (s : Shared) (H : Hp) (C : Addr) (cl : List (Str × Addr)) (fp : List Addr), DG (X.blk s H scope (compEnvC scope cl C X.env) fp) G ptg tg) (ht : ∀ (s : Shared) (H : Hp) (C : Addr) (cl : List (Str × Addr)) (fp : List Addr), DTs (X.blk s H scope (compEnvC scope cl C X.env) fp) G P pifs ifs)
    (he : ∀ (s : Shared) (H : Hp) (C : Addr) (cl : List (Str × Addr)) (fp : List Addr), DE (X.blk s H scope (compEnvC scope cl C X.env) fp) G P pelt elt) (hs : ∀ x, foldedSetIterable pit X.env x = pure x := by intro _; rfl) :
    DE X G P (.ListComp pelt [⟨ptg, pit, pifs, 0⟩] scope pos) (.lc elt tg ik src ifs) := fun W tk =>
  imE (pe_lc hc hN (hi W tk) ok (fun s H C cl fp => hg s H C cl fp) (fun s H C cl fp => ht s H C cl fp (fun _ _ _ _ => False) TkM.zero) (fun s H C cl fp => he s H C cl fp (fun _ _ _ _ => False) TkM.zero) hs) fun σ H Q h => by
    rw [ho]
    exact lc_imp h
end
end PV

/-! part PV19 -/
/-! PV19: any, all, sum of generator expressions. -/
noncomputable section
namespace PV
open PySem L2 LamX NdefX

section
variable {G : Gx} {w : Wd} {H H' : Hp}
/-- tables alone have grown -/
structure Gr (G : Gx) (H H' : Hp) : Prop where
  ext : ExtN H H'
  none : ∀ b, H' b = none → H b = none
  tabs : TabsN G.T H'
theorem Gr.po (g : Gr G H H') : Po w H w H' := ⟨fun _ h => h, fun _ h => .inl h, ⟨[], by simp, by simp⟩, fun _ h => .inl h, fun a o h _ _ _ n => g.ext a o h n, fun a o h _ _ _ n => Kp.eq (g.ext a o h n), g.none, fun a L h => ⟨h, fun o e n => g.ext a o e n, fun b hb o e n => Kp.eq (g.ext b o e n)⟩, fun a h o e => by
  by_cases c : ∃ ps, o = .tbl ps
  · exact .inr c
  · exact h o (g.ext a o e fun ps z => c ⟨ps, z⟩)⟩
theorem Gr.u (g : Gr G H H') : Gr G (PV.unf H) (PV.unf H') := ⟨fun b o h n => by
  obtain ⟨u, e, rfl⟩ := unf_of h
  exact unf_some (g.ext b u e (unfO_tbl n)), fun b h => unf_none.mpr (g.none b (unf_none.mp h)), tabsN_unf g.tabs⟩
mutual
theorem VR.gr (wf : Wf G w H) (g : Gr G H H') : ∀ {l : Nat} {O : List Addr} {d : D} {v : V}, VR G w H l O d v → VR G w H' l O d v
  | _, _, _, _, .zero h => .zero (h.po wf g.po)
  | _, _, _, _, .nc hc h => .nc hc (h.po wf g.po)
  | _, _, _, _, .lst h hf hn hs => .lst (g.ext _ _ h fun ps e => by cases e) hf hn (VRs.gr wf g hs)
  | _, _, _, _, .dic h hf hn hs => .dic (g.ext _ _ h fun ps e => by cases e) hf hn (VRs.gr wf g hs)
  | _, _, _, _, .dit h hf hn hs => .dit (g.ext _ _ h fun ps e => by cases e) hf hn (VRs.gr wf g hs)
theorem VRs.gr (wf : Wf G w H) (g : Gr G H H') : ∀ {l : Nat} {O : List Addr} {ds : List D} {vs : List V}, VRs G w H l O ds vs → VRs G w H' l O ds vs
  | _, _, _, _, .nil => .nil
  | _, _, _, _, .cons n h hs => .cons n (VR.gr wf g h) (VRs.gr wf g hs)
end
theorem FDs.gr (wf : Wf G w H) (g : Gr G H H') : ∀ {xs : List (Nat × D)} {vs : List V} {O : List Addr}, FDs G w H xs vs O → FDs G w H' xs vs O
  | _, _, _, .nil => .nil
  | _, _, _, .cons n h hs => .cons n (h.gr wf g) (FDs.gr wf g hs)
theorem NRs.gr (wf : Wf G w H) (g : Gr G H H') : ∀ {st : Sto} {as O : List Addr}, NRs G w H st as O → NRs G w H' st as O
  | _, _, _, .nil => .nil
  | _, _, _, .cons (.nl h hs) r => .cons (.nl (g.ext _ _ h fun ps e => by cases e) (hs.po wf g.po)) (NRs.gr wf g r)
  | _, _, _, .cons (.ni h hc hl hs) r => .cons (.ni (g.ext _ _ h fun ps e => by cases e) hc hl (hs.gr wf g)) (NRs.gr wf g r)
  | _, _, _, .cons (.nk t h hc hl hs hz) r => .cons (.nk t (g.ext _ _ h fun ps e => by cases e) hc hl (hs.gr wf.u g.u) fun b hb => let ⟨o, e, n1, n2, n3⟩ := hz b hb; ⟨o, g.ext b o e n3, n1, n2, n3⟩) (NRs.gr wf g r)
  | _, _, _, .cons (.nd t h hs) r => .cons (.nd t (g.ext _ _ h fun ps e => by cases e) (hs.po wf g.po)) (NRs.gr wf g r)
theorem St.gr {st : Sto} (s : St G w H st) (g : Gr G H H') : St G w H' st :=
  ⟨⟨fun a z => let ⟨o, e, n⟩ := s.wf.fa a z; ⟨o, g.ext a o e n, n⟩, s.wf.fr, s.wf.nd, fun a z => let ⟨⟨o, e, n⟩, q⟩ := s.wf.ra a z; ⟨⟨o, g.ext a o e n, n⟩, q⟩, fun a z => let ⟨o, e, n⟩ := s.wf.oa a z; ⟨o, g.ext a o e n, n⟩, g.tabs⟩, s.nr.gr s.wf g, s.nd, s.lk⟩
end
def gkD : Gk → Int → D
  | .any, _ => .bl false
  | .all, _ => .bl true
  | .sum, i => .int i
theorem gkD_go {g : Gk} {i : Int} : genEnd g (gkD g i) = false := by cases g <;> rfl
theorem gkD_0 {g : Gk} : gen0 g = gkD g 0 := by cases g <;> rfl
theorem gkD_fr {G : Gx} {w : Wd} {H : Hp} {g : Gk} {i : Int} : FR G w H (gkD g i) (gkEnd g i) := by
  cases g
  · exact .bl _
  · exact .bl _
  · exact .int _
def genM (P : Pr) (g : Gk) (elt : E) (tg : Tg) (ifs : List E) (ρ : Env) (acc d : D) : M D := do
  let ρ1 ← PV.ofO (bindT tg d (wipeE ρ (tgV tg)))
  let t ← evT P ifs ρ1
  if t then do
    let y ← evE P elt ρ1
    PV.ofO (genStep g acc y.2)
  else pure acc
def genF (P : Pr) (g : Gk) (elt : E) (tg : Tg) (ifs : List E) (ρ : Env) (acc d : D) : M D := if genEnd g acc then pure acc else PV.calm (genM P g elt tg ifs ρ acc d)
theorem evE_gen {P : Pr} {g : Gk} {elt : E} {tg : Tg} {ik : Ik} {src ifs : List E} {ρ : Env} : evE P (.gen g elt tg ik src ifs) ρ = evI P ik src ρ >>= fun ds => foldM (genF P g elt tg ifs ρ) ds (gen0 g) >>= fun d => pure (.fz, d) := by
  rw [evE]
  unfold evI
  rw [M.assoc]
  rfl
theorem foldM_end {P : Pr} {g : Gk} {elt : E} {tg : Tg} {ifs : List E} {ρ : Env} {acc : D} (h : genEnd g acc = true) : ∀ ds : List D, foldM (genF P g elt tg ifs ρ) ds acc = pure acc
  | [] => rfl
  | d :: ds => by
    rw [foldM_cons]
    have e : genF P g elt tg ifs ρ acc d = pure acc := by unfold genF; rw [if_pos h]
    rw [e]
    exact foldM_end h ds
theorem gstep_ok {G : Gx} {Os : List (List Addr)} {w : Wd} {H H0 : Hp} {g : Gk} {i : Int} {yk : KD} {v : V} {r : D} (kv : KR G Os w H H0 yk v) (e : genStep g (gkD g i) yk.2 = some r) {stop : V → Prop} {cont : Int → Prop}
    (hs : ∀ b, r = .bl b → genEnd g r = true → stop (.bl b)) (hc : ∀ j, r = gkD g j → cont j) : gkStep g i v stop cont := by
  obtain ⟨k, d⟩ := yk
  cases g with
  | any =>
    cases d with
    | bl b =>
      cases e
      obtain rfl := kv.bl
      cases b with
      | true => exact hs true rfl rfl
      | false => exact hc i rfl
    | _ => cases e
  | all =>
    cases d with
    | bl b =>
      cases e
      obtain rfl := kv.bl
      cases b with
      | true => exact hc i rfl
      | false => exact hs false rfl rfl
    | _ => cases e
  | sum =>
    cases d with
    | int j =>
      cases e
      obtain rfl := kv.int
      exact hc (i + j) rfl
    | _ => cases e

section
variable {X : Cx} {G : Gx} {P : Pr} {pos : Pos}
theorem de_gen {gk : Gk} {k : Nat} {pelt ptg pit : Expr} {pifs : List Expr} {elt : E} {tg : Tg} {ik : Ik} {src ifs : List E} {scope : Scope} {own : List (Str × Nat)} {p gpos : Pos}
    (hr : Room (k + 1) X.A) (hgl : Gl X (gkName gk)) (hm : X.mg (gkName gk) = none) (TB : TabAt X G.T gpos "<genexpr>") (hc : X.calm = true) (hN : X.N.Nodup) (ok : GxOk X.N X.env.scope scope own) (ho : own.map (·.2) = tgV tg) (hi : DI X G P ptg pit ik src) 
    (hg : ∀ (A : Around) (s : Shared) (H : Hp) (C : Addr) (code : Value) (fp : List Addr), Room k A → DG (gxX X A s H scope C code fp) G ptg tg) (ht : ∀ (A : Around) (s : Shared) (H : Hp) (C : Addr) (code : Value) (fp : List Addr), Room k A → DTs (gxX X A s H scope C code fp) G P pifs ifs)
    (he : ∀ (A : Around) (s : Shared) (H : Hp) (C : Addr) (code : Value) (fp : List Addr), Room k A → DE (gxX X A s H scope C code fp) G P pelt elt) (hs : ∀ x, genFold pit X.env x = pure x := by intro _; rfl)
    (hst : starEach [.GeneratorExp pelt [⟨ptg, pit, pifs, 0⟩] scope gpos] X.env = (false, eval (.GeneratorExp pelt [⟨ptg, pit, pifs, 0⟩] scope gpos) X.env) :: starEach [] X.env := by rfl) :
    DE X G P (.Call (.Name (gkName gk) p) [.GeneratorExp pelt [⟨ptg, pit, pifs, 0⟩] scope gpos] [] pos) (.gen gk elt tg ik src ifs) := fun W tk =>
  imE (pe_gx hr hgl hm TB hc hN ok (hi W tk) hs (fun A s H C code fp r => hg A s H C code fp r) (fun A s H C code fp r => ht A s H C code fp r (fun _ _ _ _ => False) TkM.zero) (fun A s H C code fp r => he A s H C code fp r (fun _ _ _ _ => False) TkM.zero) hst) fun σ H Q ⟨w, ρ, Os, st, g, ot⟩ => by
    rw [evE_gen] at ot
    refine ⟨w, ρ, Os, st, g, Out.bind (Po.refl _ _) ot fun ds s1 J w1 H1 p1 st1 ⟨wk, hz⟩ o1 => ⟨st1.wf.tb, fun H2 eN nN T2 => ?_⟩⟩
    have gr : Gr G H1 H2 := ⟨eN, nN, T2⟩
    rw [ho]
    have g1 := g.po p1 st1
    have gw0 : Gd G w1 H2 σ ρ Os s1 := g1.po gr.po (st1.gr gr)
    let Inv' : Nat → Int → Hp → Prop := fun i acc Hc => ∃ wc stc, i ≤ ds.length ∧ Po w1 H1 wc Hc ∧ Gd G wc Hc (wipe σ (tgV tg)) (wipeE ρ (tgV tg)) (wipeO Os (tgV tg)) stc ∧
      Out G (KR G Os) w H ((foldM (genF P gk elt tg ifs ρ) (ds.drop i) (gkD gk acc) >>= fun d => pure (.fz, d)) stc) (WS W σ) Q
    refine ⟨fun i m acc Hc => m = ds.length - i ∧ Inv' i acc Hc, ⟨_, rfl, w1, s1, Nat.zero_le _, gr.po, gw0.wipe _, by rw [← gkD_0]; simpa using o1⟩, ?_⟩
    rintro i m acc Hc ⟨rfl, wc, stc, hi', pc, gc, oc⟩
    by_cases hlt : i < ds.length
    · refine .inr ⟨wk.go wc Hc i pc hlt, fun a' H' => Inv' (i + 1) a' H', fun a' H' q => ⟨_, by omega, rfl, q⟩, fun x H' y => ?_⟩
      have hd : ds[i]? = some ds[i] := List.getElem?_eq_getElem hlt
      obtain ⟨w2, p2, st2, fx⟩ := wk.yld wc Hc stc i ds[i] x H' pc gc.s hd y
      rw [List.drop_eq_getElem_cons hlt, foldM_cons, M.assoc] at oc
      unfold genF at oc
      rw [if_neg (by rw [gkD_go]; exact Bool.false_ne_true)] at oc
      obtain ⟨acc', st3, e3, oc2⟩ := oc.calm
      unfold genM at e3
      obtain ⟨ρ1, s4, q4, e3a⟩ := M.of_bind e3
      obtain ⟨e4, q5⟩ := M.ofO_ok q4
      subst q5
      obtain ⟨t, s5, e5, e3b⟩ := M.of_bind e3a
      clear e3 e3a q4
      have g2 := gc.po p2 st2
      refine ⟨w2, _, _, _, _, ρ1, g2, fx, e4, fun σ1 Os1 g3 sm sub => ⟨(sm.wipe).trans (wipe_wipe _), ?_⟩⟩
      have same : ∀ {w' : Wd} {H'' : Hp} {sx : Sto}, Po w2 H' w' H'' → St G w' H'' sx → Gd G w' H'' (wipe σ (tgV tg)) (wipeE ρ (tgV tg)) (wipeO Os (tgV tg)) sx := fun p s => g2.po p s
      refine ⟨w2, ρ1, Os1, _, g3, Out.of e5 fun b w4 H4 p4 s4' rb => ?_⟩
      obtain rfl : t = b := rb
      have g4 := g3.po p4 s4'
      have p14 := p2.trans p4
      cases t with
      | false =>
        rw [if_neg Bool.false_ne_true]
        rw [if_neg Bool.false_ne_true] at e3b
        cases e3b
        exact ⟨w4, _, hlt, pc.trans p14, same p4 s4', oc2⟩
      | true =>
        rw [if_pos rfl]
        rw [if_pos rfl] at e3b
        obtain ⟨yk, s6, e6, e3c⟩ := M.of_bind e3b
        obtain ⟨e7, q7⟩ := M.ofO_ok e3c
        subst q7
        refine ⟨w4, ρ1, Os1, _, g4, Out.of e6 fun v w5 H5 p5 s5' kv => ?_⟩
        have p15 := p14.trans p5
        refine gstep_ok kv e7 (fun b eb en => ?_) (fun j ej => ?_)
        · subst eb
          have oc3 : Out G (KR G Os) w H ((foldM (genF P gk elt tg ifs ρ) (ds.drop (i + 1)) (.bl b) >>= fun d => pure (.fz, d)) st3) (WS W σ) Q := oc2
          rw [foldM_end en] at oc3
          exact Out.fin (Rel := KR G Os) oc3 (p1.trans (pc.trans p15)) s5' (FR.bl b)
        · subst ej
          exact ⟨w5, _, hlt, pc.trans p15, same (p4.trans p5) s5', oc2⟩
    · have hi2 : i = ds.length := by omega
      subst hi2
      refine .inl ⟨wk.stop wc Hc _ pc (Nat.le_refl _), ?_⟩
      rw [List.drop_of_length_le (Nat.le_refl _), foldM_nil] at oc
      exact Out.fin (Rel := KR G Os) oc (p1.trans pc) gc.s gkD_fr
end
end PV

/-! part PV20 -/
/-! PV20: statements: the small language's, their evaluator, what they promise. -/
noncomputable section
namespace PV
open PySem L2 LamX NdefX

/-- how a block ends -/
inductive Fl where
  | nx | bk | ct | rt (d : D)
  deriving Inhabited
inductive S where
  | pass | brk | cnt | retN
  | ret (e : E)
  | exp (e : E)
  | set (i lv : Nat) (e : E)
  | sett (t : Tg) (e : E)
  | par (i li j lj : Nat) (a b : E)
  | par3 (i li j lj k lk : Nat) (a b c : E)
  | par4 (i li j lj k lk m lm : Nat) (a b c d : E)
  | aug (i : Nat) (o : Operator) (e : E)
  | app (i : Nat) (e : E)
  | ite (c : E) (a b : List S)
  | whl (n : Nat) (c : E) (b : List S)
  | for_ (t : Tg) (ik : Ik) (src : List E) (b : List S)
  | raise (c : Nat) (es : List E)
  | setf (c : Nat) (o : E) (k : Nat) (e : E)
  | seti (o ix e : E)
  | frz (i : Nat)
  | dput (i : Nat) (k e : E)
  | popa (j i : Nat) (k : E)
  | appi (i : Nat) (k e : E)
  | daug (i : Nat) (k : E) (o : Operator) (e : E)
  | dputT (i : Nat) (k e : E)
  | ddelT (i : Nat) (k : E)
  | ext (i : Nat) (e : E)
  | augf (c : Nat) (o : E) (k : Nat) (op : Operator) (e : E)
  | lput (i : Nat) (k e : E)
  | laug (i : Nat) (k : E) (o : Operator) (e : E)
  | tryC (cc : Nat) (e : E) (r : Option E)
  | wl (i : Nat) (s : S)
  | setfo (c : Nat) (o : E) (k : Nat) (e : E)
  | fput (c i k : Nat) (key e : E)
  | fputl (c i k : Nat) (key e : E)
  | faug (c i k : Nat) (key : E) (op : Operator) (e : E)
  | fdel (c i k : Nat) (key : E)
  | fapp (c i k : Nat) (e : E)
  | fpop (c j i k : Nat)
  | ddel (i : Nat) (k : E)
  | popl (t : Tg) (i : Nat)
  | lput2 (i : Nat) (k l e : E)
  | dput2 (i : Nat) (k e : E) (j : Nat) (l f : E)
  | dputn (i : Nat) (k e : E) (j lv : Nat) (f : E)
  | sem (f : Pr → Env → M (Fl × Env))
  deriving Inhabited
/-- the level at which a value comes to stand in a slot -/
def slotL (lv : Nat) : Kd → Option Nat
  | .fz => some 0
  | .an => some lv
  | .fr l => if lv = 0 then some 0 else if l = lv then some lv else if lv = 1 ∧ 1 < l then some 1 else none
  | .bo _ => none
  | .lk => none
def setM (i lv : Nat) (x : KD) (ρ : Env) : M Env := do
  let l ← ofO (slotL lv x.1)
  pure (ρ.set i (some (l, x.2)))
def whileM (c : Env → M Bool) (b : Env → M (Fl × Env)) : Nat → Env → M (Fl × Env)
  | 0, _ => no
  | n + 1, ρ => do
    let t ← c ρ
    if t then do
      let r ← b ρ
      match r.1 with
      | .nx => whileM c b n r.2
      | .ct => whileM c b n r.2
      | .bk => pure (.nx, r.2)
      | .rt d => pure (.rt d, r.2)
    else pure (.nx, ρ)
def forM' (b : D → Env → M (Fl × Env)) : List D → Env → M (Fl × Env)
  | [], ρ => pure (.nx, ρ)
  | d :: ds, ρ => do
    let r ← b d ρ
    match r.1 with
    | .nx => forM' b ds r.2
    | .ct => forM' b ds r.2
    | .bk => pure (.nx, r.2)
    | .rt d => pure (.rt d, r.2)
def augM (o : Operator) (x y : D) : M D := match o, x, y with
  | .Add, .int i, .int j => pure (.int (i + j))
  | .Sub, .int i, .int j => pure (.int (i - j))
  | _, _, _ => no
def appM (i l : Nat) (ds : List D) (y : KD) (ρ : Env) : M Env := do
  let d ← putL l y
  if szOk (ds.length + 1) then pure (ρ.set i (some (l + 1, .lst (ds ++ [d])))) else no
def ownL : Nat × D → Option (Nat × List D)
  | (l + 1, .lst ds) => some (l, ds)
  | _ => none
def ownT : Nat × D → Option (List (List Ky × D))
  | (1, .dit kvs) => some kvs
  | _ => none
/-- a list of one's own, its items frozen -/
def ownL1 : Nat × D → Option (List D)
  | (1, .lst ds) => some ds
  | _ => none
/-- the items of a list that may be read -/
def lstV (y : KD) : Option (List D) := match y.2 with
  | .lst es => if viewB y.1 then some es else none
  | _ => none
/-- a list of one's own, its lists one's own too -/
def ownL2 : Nat × D → Option (List D)
  | (2, .lst ds) => some ds
  | _ => none
def lstO : D → Option (List D)
  | .lst ds => some ds
  | _ => none
/-- a field is stored -/
def putFd (k : Nat) (d : D) : List (Nat × D) → Option (List (Nat × D))
  | [] => if k = 0 then some [(0, d)] else none
  | x :: fs => match k with
    | 0 => if x.1 = 0 ∨ isC x.2 = false then some ((0, d) :: fs) else none
    | k + 1 => (putFd k d fs).map (x :: ·)
def setfM (c : Nat) (o : D) (k : Nat) (d : D) : M Unit := match o with
  | .ref n => fun s => match s[n]? with
    | some (.ni c' fs) => if c' = c then (match putFd k d fs with
      | some fs' => .ok () (s.set n (.ni c fs'))
      | none => .no) else .no
    | _ => .no
  | _ => no
/-- an item of a list of the store's -/
def setiN (n : Nat) (i : Int) (d : D) : Option Nd → M Unit
  | some (.nl ds) => match L2.ixN ds.length i with
    | some j => fun s => .ok () (s.set n (.nl (ds.set j d)))
    | none => no
  | _ => no
def setiR (n : Nat) (i : Int) (d : D) : M Unit := fun s => setiN n i d s[n]? s
def setiM (o i d : D) : M Unit := match o, i with
  | .ref n, .int i => setiR n i d
  | _, _ => no
/-- an object of the store's -/
def refO : D → M Nat
  | .ref n => pure n
  | _ => no
def unlk : Option Nd → Option Nd
  | some (.nk _ _) => none
  | o => o
def fldR (c n k : Nat) : M KD := fun s => fldN c k (unlk s[n]?) s
/-! ### what an instance holds as its own -/
/-- d0[key] = d, of a dict -/
def putFi (key d : D) : D → Option D
  | .dic kvs => match keyO key with
    | some kk => if szOk (kvs.length + 1) then some (.dic (setK kvs kk d)) else none
    | none => none
  | _ => none
/-- d0[key] = d, of a list -/
def putFl (key d : D) : D → Option D
  | .lst ds => match key with
    | .int i => (L2.ixN ds.length i).map fun m => .lst (ds.set m d)
    | _ => none
  | _ => none
/-- d0[key], of a dict -/
def getFi (key : D) : D → Option D
  | .dic kvs => match keyO key with
    | some kk => getK kk kvs
    | none => none
  | _ => none
/-- an expression under the lock of n -/
def wlK (n : Nat) (m : M KD) : M KD := do
  let x ← wlM n m
  if keepB x.1 then pure x else no
/-- a key leaves -/
def delK {κ : Type} [DecidableEq κ] (kvs : List (κ × D)) (k : κ) : List (κ × D) := kvs.filter fun kv => !decide (kv.1 = k)
def delFi (key : D) : D → Option D
  | .dic kvs => match keyO key with
    | some kk => if (getK kk kvs).isSome then some (.dic (delK kvs kk)) else none
    | none => none
  | _ => none
def appFi (d : D) : D → Option D
  | .lst ds => if szOk (ds.length + 1) then some (.lst (ds ++ [d])) else none
  | _ => none
def popFi : D → Option D
  | .lst ds => if ds = [] then none else some (.lst ds.dropLast)
  | _ => none
def lastFi : D → Option D
  | .lst ds => ds.getLast?
  | _ => none
/-- what field k of object n holds as its own -/
def fgetN (c k : Nat) : Option Nd → Option D
  | some (.ni c' fs) => if c' = c then (match fs[k]? with
    | some (1, d) => some d
    | _ => none) else none
  | _ => none
def fgetM (c n k : Nat) : M D := fun s => ofO (fgetN c k s[n]?) s
def fsetN (k : Nat) (d : D) : Nd → Nd
  | .ni c fs => .ni c (fs.set k (1, d))
  | x => x
/-- .. is changed -/
def fupM (c n k : Nat) (g : D → Option D) : M Unit := fun s => match fgetN c k s[n]?, s[n]? with
  | some d, some nd => (match g d with
    | some d' => .ok () (s.set n (fsetN k d' nd))
    | none => .no)
  | _, _ => .no
/-- a field that the instance holds as its own -/
def putFo (k : Nat) (d : D) (fs : List (Nat × D)) : Option (List (Nat × D)) := if k = fs.length then some (fs ++ [(1, d)]) else none
def setfoM (c : Nat) (o : D) (k : Nat) (d : D) : M Unit := match o with
  | .ref n => fun s => match s[n]? with
    | some (.ni c' fs) => if c' = c then (match putFo k d fs with
      | some fs' => .ok () (s.set n (.ni c fs'))
      | none => .no) else .no
    | _ => .no
  | _ => no
/-- a new value that may be held as one's own -/
def ownB : Kd → Bool
  | .an => true
  | .fr l => l == 1
  | _ => false
/-- exceptions of one class are met by `continue` -/
def tryM (cc : Nat) (m : M (Fl × Env)) (ρ : Env) : M (Fl × Env) := fun s => match m s with
  | .ok a s' => .ok a s'
  | .ex c _ s' => if c = cc then .ok (.ct, ρ) s' else .no
  | .no => .no
/-- the end of a `try` suite -/
def tryEnd (P : Pr) (r : Option E) (ρ : Env) : M (Fl × Env) := match r with
  | none => pure (.nx, ρ)
  | some e => do
    let x ← evE P e ρ
    let d ← keep x
    pure (.rt d, ρ)
/-- what a for statement may walk -/
def forB (xs : List KD) : Bool := xs.all fun x => walkB x.1
/-- a key of one's own dict is given a value -/
def putZ (x : KD) : M D := if x.1 = .fz ∧ isR x.2 = false then pure x.2 else no
def dputM (P : Pr) (i : Nat) (k : E) (d : D) (ρ : Env) : M Env := do
  let x ← slotD ρ i
  let kvs ← ofO (ownD x)
  let z ← evE P k ρ
  let kk ← ofO (keyO z.2)
  if szOk (kvs.length + 1) then pure (ρ.set i (some (1, .dic (setK kvs kk d)))) else no
mutual
def evS (P : Pr) : S → Env → M (Fl × Env)
  | .pass, ρ => pure (.nx, ρ)
  | .brk, ρ => pure (.bk, ρ)
  | .cnt, ρ => pure (.ct, ρ)
  | .retN, ρ => pure (.rt .non, ρ)
  | .ret e, ρ => do
    let x ← evE P e ρ
    let d ← keep x
    pure (.rt d, ρ)
  | .exp e, ρ => do
    let _ ← evE P e ρ
    pure (.nx, ρ)
  | .set i lv e, ρ => do
    let x ← evE P e ρ
    let ρ1 ← setM i lv x ρ
    pure (.nx, ρ1)
  | .sett t e, ρ => do
    let x ← evE P e ρ
    let d ← keep x
    let ρ1 ← ofO (bindT t d ρ)
    pure (.nx, ρ1)
  | .par i li j lj a b, ρ => do
    let x ← evE P a ρ
    let y ← evE P b ρ
    let ρ1 ← setM i li x ρ
    let ρ2 ← setM j lj y ρ1
    pure (.nx, ρ2)
  | .par3 i li j lj k lk a b c, ρ => do
    let x ← evE P a ρ
    let y ← evE P b ρ
    let z ← evE P c ρ
    let ρ1 ← setM i li x ρ
    let ρ2 ← setM j lj y ρ1
    let ρ3 ← setM k lk z ρ2
    pure (.nx, ρ3)
  | .par4 i li j lj k lk m lm a b c d, ρ => do
    let x ← evE P a ρ
    let y ← evE P b ρ
    let z ← evE P c ρ
    let u ← evE P d ρ
    let ρ1 ← setM i li x ρ
    let ρ2 ← setM j lj y ρ1
    let ρ3 ← setM k lk z ρ2
    let ρ4 ← setM m lm u ρ3
    pure (.nx, ρ4)
  | .aug i o e, ρ => do
    let x ← slotD ρ i
    let y ← evE P e ρ
    let z ← augM o x.2 y.2
    pure (.nx, ρ.set i (some (0, z)))
  | .app i e, ρ => do
    let x ← slotD ρ i
    let q ← ofO (ownL x)
    let y ← evE P e ρ
    let ρ1 ← appM i q.1 q.2 y ρ
    pure (.nx, ρ1)
  | .ite c a b, ρ => do
    let t ← evB P c ρ
    if t then evSs P a ρ else evSs P b ρ
  | .whl n c b, ρ => whileM (evB P c) (evSs P b) n ρ
  | .for_ t ik src b, ρ => do
    let xs ← evEs P src ρ
    if forB xs then do
      let ds ← itD ik xs
      forM' (fun d ρ => do
        let ρ1 ← ofO (bindT t d ρ)
        evSs P b ρ1) ds ρ
    else no
  | .raise c es, ρ => do
    let _ ← evEs P es ρ
    raise c .non
  | .setf c o k e, ρ => do
    let x ← evE P e ρ
    let y ← evE P o ρ
    let d ← put x
    let o ← keep y
    let _ ← setfM c o k d
    pure (.nx, ρ)
  | .seti o ix e, ρ => do
    let x ← evE P e ρ
    let y ← evE P o ρ
    let z ← evE P ix ρ
    let d ← put x
    let _ ← setiM y.2 z.2 d
    pure (.nx, ρ)
  | .frz i, ρ => do
    let x ← slotD ρ i
    pure (.nx, ρ.set i (some (0, x.2)))
  | .dput i k e, ρ => do
    let y ← evE P e ρ
    let x ← slotD ρ i
    let kvs ← ofO (ownD x)
    let z ← evE P k ρ
    let kk ← ofO (keyO z.2)
    let d ← put y
    if szOk (kvs.length + 1) then pure (.nx, ρ.set i (some (1, .dic (setK kvs kk d)))) else no
  | .dputT i k e, ρ => do
    let y ← evE P e ρ
    let x ← slotD ρ i
    let kvs ← ofO (ownT x)
    let z ← evE P k ρ
    let kk ← ofO (keyTO z.2)
    let d ← put y
    if szOk (kvs.length + 1) then pure (.nx, ρ.set i (some (1, .dit (setK kvs kk d)))) else no
  | .daug i k o e, ρ => do
    let x ← slotD ρ i
    let kvs ← ofO (ownD x)
    let z ← evE P k ρ
    let kk ← ofO (keyO z.2)
    let d0 ← ofO (getK kk kvs)
    let y ← evE P e ρ
    let r ← augM o d0 y.2
    if szOk (kvs.length + 1) then pure (.nx, ρ.set i (some (1, .dic (setK kvs kk r)))) else no
  | .appi i k e, ρ => do
    let x ← slotD ρ i
    let ds ← ofO (ownL2 x)
    let z ← evE P k ρ
    let n ← ofO (intO z.2)
    let m ← ofO (L2.ixN ds.length n)
    let d0 ← ofO ds[m]?
    let es ← ofO (lstO d0)
    let y ← evE P e ρ
    let d ← put y
    if szOk (es.length + 1) then pure (.nx, ρ.set i (some (2, .lst (ds.set m (.lst (es ++ [d])))))) else no
  | .popa j i k, ρ => do
    let x ← slotD ρ i
    let ds ← ofO (ownL1 x)
    let z ← evE P k ρ
    let n ← ofO (intO z.2)
    let m ← ofO (L2.ixN ds.length n)
    let d ← ofO ds[m]?
    if decide (-(2 ^ 62) ≤ n ∧ n < 2 ^ 62) ∧ j ≠ i then pure (.nx, (ρ.set i (some (1, .lst (ds.eraseIdx m)))).set j (some (0, d))) else no
  | .augf c o k op e, ρ => do
    let x ← evE P o ρ
    let o ← keep x
    let n ← refO o
    let v ← fldR c n k
    let y ← evE P e ρ
    let z ← augM op v.2 y.2
    let _ ← setfM c (.ref n) k z
    pure (.nx, ρ)
  | .lput i k e, ρ => do
    let y ← evE P e ρ
    let x ← slotD ρ i
    let ds ← ofO (ownL1 x)
    let z ← evE P k ρ
    let n ← ofO (intO z.2)
    let m ← ofO (L2.ixN ds.length n)
    let d ← put y
    pure (.nx, ρ.set i (some (1, .lst (ds.set m d))))
  | .laug i k o e, ρ => do
    let x ← slotD ρ i
    let ds ← ofO (ownL1 x)
    let z ← evE P k ρ
    let n ← ofO (intO z.2)
    let m ← ofO (L2.ixN ds.length n)
    let d0 ← ofO ds[m]?
    let y ← evE P e ρ
    let r ← augM o d0 y.2
    pure (.nx, ρ.set i (some (1, .lst (ds.set m r))))
  | .wl i s, ρ => do
    let n ← slotR ρ i
    wlM n (evS P s ρ)
  | .setfo c o k e, ρ => do
    let x ← evE P e ρ
    let y ← evE P o ρ
    let o ← keep y
    if ownB x.1 && isC x.2 then do
      let _ ← setfoM c o k x.2
      pure (.nx, ρ)
    else no
  | .fput c i k key e, ρ => do
    let y ← evE P e ρ
    let n ← slotR ρ i
    let d0 ← fgetM c n k
    let z ← wlK n (evE P key ρ)
    let d ← put y
    let d1 ← ofO (putFi z.2 d d0)
    let _ ← fupM c n k (fun _ => some d1)
    pure (.nx, ρ)
  | .fputl c i k key e, ρ => do
    let y ← evE P e ρ
    let n ← slotR ρ i
    let d0 ← fgetM c n k
    let z ← wlK n (evE P key ρ)
    let d ← put y
    let d1 ← ofO (putFl z.2 d d0)
    let _ ← fupM c n k (fun _ => some d1)
    pure (.nx, ρ)
  | .faug c i k key op e, ρ => do
    let n ← slotR ρ i
    let d0 ← fgetM c n k
    let z ← wlK n (evE P key ρ)
    let d1 ← ofO (getFi z.2 d0)
    let y ← wlK n (evE P e ρ)
    let r ← augM op d1 y.2
    let d2 ← ofO (putFi z.2 r d0)
    let _ ← fupM c n k (fun _ => some d2)
    pure (.nx, ρ)
  | .fdel c i k key, ρ => do
    let n ← slotR ρ i
    let d0 ← fgetM c n k
    let z ← wlK n (evE P key ρ)
    let d1 ← ofO (delFi z.2 d0)
    let _ ← fupM c n k (fun _ => some d1)
    pure (.nx, ρ)
  | .fapp c i k e, ρ => do
    let n ← slotR ρ i
    let d0 ← fgetM c n k
    let y ← wlK n (evE P e ρ)
    let d ← put y
    let d1 ← ofO (appFi d d0)
    let _ ← fupM c n k (fun _ => some d1)
    pure (.nx, ρ)
  | .fpop c j i k, ρ => do
    let n ← slotR ρ i
    let d0 ← fgetM c n k
    let d ← ofO (lastFi d0)
    let d1 ← ofO (popFi d0)
    let _ ← fupM c n k (fun _ => some d1)
    pure (.nx, ρ.set j (some (0, d)))
  | .ddelT i k, ρ => do
    let x ← slotD ρ i
    let kvs ← ofO (ownT x)
    let z ← evE P k ρ
    let kk ← ofO (keyTO z.2)
    let _ ← ofO (getK kk kvs)
    pure (.nx, ρ.set i (some (1, .dit (delK kvs kk))))
  | .ddel i k, ρ => do
    let x ← slotD ρ i
    let kvs ← ofO (ownD x)
    let z ← evE P k ρ
    let kk ← ofO (keyO z.2)
    let _ ← ofO (getK kk kvs)
    pure (.nx, ρ.set i (some (1, .dic (delK kvs kk))))
  | .popl t i, ρ => do
    let x ← slotD ρ i
    let ds ← ofO (ownL1 x)
    let d ← ofO ds.getLast?
    let ρ1 ← ofO (bindT t d (ρ.set i (some (1, .lst ds.dropLast))))
    pure (.nx, ρ1)
  | .lput2 i k l e, ρ => do
    let y ← evE P e ρ
    let x ← slotD ρ i
    let ds ← ofO (ownL2 x)
    let z ← evE P k ρ
    let n ← ofO (intO z.2)
    let m ← ofO (L2.ixN ds.length n)
    let d0 ← ofO ds[m]?
    let es ← ofO (lstO d0)
    let u ← evE P l ρ
    let n2 ← ofO (intO u.2)
    let m2 ← ofO (L2.ixN es.length n2)
    let d ← put y
    pure (.nx, ρ.set i (some (2, .lst (ds.set m (.lst (es.set m2 d))))))
  | .dput2 i k e j l f, ρ => do
    let y ← evE P e ρ
    let z ← evE P f ρ
    let d ← putZ y
    let d2 ← putZ z
    let ρ1 ← dputM P i k d ρ
    let ρ2 ← dputM P j l d2 ρ1
    pure (.nx, ρ2)
  | .dputn i k e j lv f, ρ => do
    let y ← evE P e ρ
    let z ← evE P f ρ
    let d ← putZ y
    let ρ1 ← dputM P i k d ρ
    let ρ2 ← setM j lv z ρ1
    pure (.nx, ρ2)
  | .tryC cc e r, ρ => tryM cc (evE P e ρ >>= fun _ => tryEnd P r ρ) ρ
  | .sem f, ρ => f P ρ
  | .ext i e, ρ => do
    let x ← slotD ρ i
    let ds ← ofO (ownL1 x)
    let y ← evE P e ρ
    let es ← ofO (lstV y)
    if szOk (ds.length + es.length) then pure (.nx, ρ.set i (some (1, .lst (ds ++ es)))) else no
def evSs (P : Pr) : List S → Env → M (Fl × Env)
  | [], ρ => pure (.nx, ρ)
  | s :: ss, ρ => do
    let r ← evS P s ρ
    match r.1 with
    | .nx => evSs P ss r.2
    | f => pure (f, r.2)
end
/-- a def: its names' number, its body -/
def runF (P : Pr) (n : Nat) (b : List S) (ds : List D) : M D := do
  let r ← evSs P b (ds.map (fun d => some (0, d)) ++ List.replicate (n - ds.length) none)
  match r.1 with
  | .nx => pure .non
  | .rt d => pure d
  | _ => no

/-! ### what a block promises: from the def's entry (w0, H0) on -/
/-- from one state to a later one, statements run between: what is frozen stays -/
structure Mo (w : Wd) (H : Hp) (w' : Wd) (H' : Hp) : Prop where
  fm : ∀ a, w.F a → w'.F a
  kp : ∀ a, w.F a → ∀ o, H a = some o → Kp o (H' a)
  sp : ∃ more, w'.ρ = w.ρ ++ more
  kt : ∀ a L, w.T a = some L → w'.T a = some L ∧ (∀ o, H a = some o → (∀ ps, o ≠ .tbl ps) → H' a = some o) ∧ ∀ b ∈ L, ∀ o, H b = some o → (∀ ps, o ≠ .tbl ps) → Kp o (H' b)
theorem Mo.refl (w : Wd) (H : Hp) : Mo w H w H := ⟨fun _ h => h, fun _ _ _ e => Kp.eq e, ⟨[], by simp⟩, fun _ _ h => ⟨h, fun _ e _ => e, fun _ _ _ e _ => Kp.eq e⟩⟩
theorem Mo.trans {w w1 w2 : Wd} {H H1 H2 : Hp} (a : Mo w H w1 H1) (b : Mo w1 H1 w2 H2) : Mo w H w2 H2 := by
  obtain ⟨m1, e1⟩ := a.sp
  obtain ⟨m2, e2⟩ := b.sp
  exact ⟨fun x h => b.fm x (a.fm x h), fun x h o e => (a.kp x h o e).trans fun u e1 => b.kp x (a.fm x h) u e1, ⟨m1 ++ m2, by rw [e2, e1, List.append_assoc]⟩, fun x L h => by
    obtain ⟨t1, k1, l1⟩ := a.kt x L h
    obtain ⟨t2, k2, l2⟩ := b.kt x L t1
    exact ⟨t2, fun o e n => k2 o (k1 o e n) n, fun c hc o e n => by
      have q := l1 c hc o e n
      obtain ⟨u, eu, tu⟩ := q.some
      exact q.trans fun u' e' => l2 c hc u' e' (by rw [eu] at e'; cases e'; exact tu n)⟩⟩
theorem Po.mo {G : Gx} {w w' : Wd} {H H' : Hp} (wf : Wf G w H) (p : Po w H w' H') : Mo w H w' H' := by
  obtain ⟨m, e, _⟩ := p.sp
  refine ⟨p.fm, fun a h o e => ?_, ⟨m, e⟩, p.kt⟩
  obtain ⟨o', e', n⟩ := wf.fa a h
  rw [e'] at e
  cases e
  exact p.kf a _ e' h (wf.fr a h).1 (wf.fr a h).2 n
theorem Mo.frz {w w1 : Wd} {H H1 : Hp} {F : List Addr} (m : Mo w H w1 H1) : Mo w H (w1.frz F) H1 := ⟨fun a h => .inl (m.fm a h), m.kp, m.sp, m.kt⟩
mutual
theorem FR.mo {G : Gx} {w w' : Wd} {H H' : Hp} (m : Mo w H w' H') : ∀ {d : D} {v : V}, FR G w H d v → FR G w' H' d v
  | _, _, .non => .non
  | _, _, .bl b => .bl b
  | _, _, .int i => .int i
  | _, _, .str x => .str x
  | _, _, .tup h hs => .tup (h.elim (fun h => .inl ⟨m.fm _ h.1, h.2.elim (fun e => .inl (m.kp _ h.1 _ e)) fun ⟨k, o, e⟩ => .inr ⟨k, o, m.kp _ h.1 _ e⟩⟩) .inr) (FRs.mo m hs)
  | _, _, .lst h hs => .lst ⟨m.fm _ h.1, m.kp _ h.1 _ h.2⟩ (FRs.mo m hs)
  | _, _, .tx hf hd h hs => .tx (m.fm _ hf) hd (m.kp _ hf _ h) (FRs.mo m hs)
  | _, _, .ins hf h hc hl hs => .ins (m.fm _ hf) (m.kp _ hf _ h) hc hl (FRs.mo m hs)
  | _, _, .dic hf h hs => .dic (m.fm _ hf) (Kp.rd (m.kp _ hf) h) (FRs.mo m hs)
  | _, _, .dit hf h hs => .dit (m.fm _ hf) (Kp.rd (m.kp _ hf) h) (FRs.mo m hs)
  | _, _, .ref h => .ref (by
      obtain ⟨more, e⟩ := m.sp
      rw [e, List.getElem?_append_left (List.getElem?_eq_some_iff.mp h).1]; exact h)
theorem FRs.mo {G : Gx} {w w' : Wd} {H H' : Hp} (m : Mo w H w' H') : ∀ {ds : List D} {vs : List V}, FRs G w H ds vs → FRs G w' H' ds vs
  | _, _, .nil => .nil
  | _, _, .cons n h hs => .cons n (FR.mo m h) (FRs.mo m hs)
end
theorem NRs.getO {G : Gx} {w : Wd} {H : Hp} : ∀ {st : Sto} {as O : List Addr} {n : Nat} {nd : Nd} {a : Addr}, NRs G w H st as O → st[n]? = some nd → as[n]? = some a → ∃ O', (∀ c ∈ O', c ∈ O) ∧ NR G w H nd a O'
  | _, _, _, _, _, _, .nil, h, _ => by simp at h
  | _, _, _, 0, _, _, .cons h _, e1, e2 => by
    simp at e1 e2
    subst e1; subst e2
    exact ⟨_, fun c z => List.mem_append_left _ z, h⟩
  | _, _, _, n + 1, _, _, .cons _ r, e1, e2 => by
    obtain ⟨O', h1, h2⟩ := NRs.getO (n := n) r (by simpa using e1) (by simpa using e2)
    exact ⟨O', fun c z => List.mem_append_right _ (h1 c z), h2⟩
section
variable {G : Gx} {w w0 wL : Wd} {H H0 HL : Hp} {st : Sto}
/-- what is lent is the store's -/
theorem St.TO (s : St G w H st) {a : Addr} {L : List Addr} (h : w.T a = some L) : ∀ c ∈ L, c ∈ w.O := by
  obtain ⟨n, nd, e1, e2, _⟩ := s.lk a L h
  obtain ⟨O', h1, h2⟩ := s.nr.getO e2 e1
  cases h2 with
  | nk t _ _ _ _ _ =>
    rw [h] at t
    cases t
    exact h1
  | nd t _ _ =>
    rw [h] at t
    cases t
    simp
  | _ => contradiction
theorem idx_nd {l : List Addr} (nd : l.Nodup) {m n : Nat} {a : Addr} (h1 : l[m]? = some a) (h2 : l[n]? = some a) : m = n := by
  obtain ⟨l1, e1⟩ := List.getElem?_eq_some_iff.mp h1
  obtain ⟨l2, e2⟩ := List.getElem?_eq_some_iff.mp h2
  exact (List.getElem_inj nd).mp (e1.trans e2.symm)
theorem notLk {nd : Nd} (hn : ∀ c fs, nd ≠ .nk c fs) (hn2 : ∀ k, nd ≠ .nd k) (e : isLk nd = true) : False := by
  cases nd with
  | nk c fs => exact hn c fs rfl
  | nd k => exact hn2 k rfl
  | _ => cases e
/-- an object of the store's that is not locked -/
theorem St.unl (s : St G w H st) {n : Nat} {b : Addr} {nd : Nd} (en : st[n]? = some nd) (eb : w.ρ[n]? = some b) (hn : ∀ c fs, nd ≠ .nk c fs) (hn2 : ∀ k, nd ≠ .nd k := by intro _ e; cases e) : ∀ a L, w.T a = some L → a ≠ b := fun a L h e => by
  subst e
  obtain ⟨m, nd', e1, e2, e3⟩ := s.lk a L h
  obtain rfl := idx_nd s.wf.nd e1 eb
  rw [en] at e2
  cases e2
  exact notLk hn hn2 e3
theorem St.lkset (s : St G w H st) {n : Nat} {nd nd' : Nd} (en : st[n]? = some nd) (hn : ∀ c fs, nd ≠ .nk c fs) (hn2 : ∀ k, nd ≠ .nd k := by intro _ e; cases e) : ∀ a L, w.T a = some L → ∃ (m : Nat) (nd1 : Nd), w.ρ[m]? = some a ∧ (st.set n nd')[m]? = some nd1 ∧ isLk nd1 = true := fun a L h => by
  obtain ⟨m, nd1, e1, e2, e3⟩ := s.lk a L h
  refine ⟨m, nd1, e1, ?_, e3⟩
  rw [List.getElem?_set_ne]
  · exact e2
  · rintro rfl
    rw [en] at e2
    cases e2
    exact notLk hn hn2 e3
/-- something of nobody's is written -/
theorem Mo.mv {b : Addr} {o : HO} (m : Mo wL HL w H) (s : St G w H st) (nF : ¬ w.F b) (nR : b ∉ w.ρ) (nO : b ∉ w.O) : Mo wL HL w (upd H b o) := by
  refine ⟨m.fm, fun c z o' e => ?_, m.sp, fun a L h => ?_⟩
  · rw [upd_ne (fun e => nF (m.fm b (by rw [← e]; exact z)))]
    exact m.kp c z o' e
  · obtain ⟨t, k, l⟩ := m.kt a L h
    refine ⟨t, fun o' e n => ?_, fun c hc o' e n => ?_⟩
    · rw [upd_ne (fun z => nR (by rw [← z]; exact s.tρ a L t))]; exact k o' e n
    · rw [upd_ne (fun z => nO (by rw [← z]; exact s.TO t c hc))]; exact l c hc o' e n
/-- an object of the store's is written -/
theorem Mo.mr {b : Addr} {o : HO} (m : Mo wL HL w H) (s : St G w H st) (hF : ¬ w.F b) (hρ : b ∈ w.ρ) (hu : ∀ a L, w.T a = some L → a ≠ b) : Mo wL HL w (upd H b o) := by
  refine ⟨m.fm, fun c z o' e => ?_, m.sp, fun a L h => ?_⟩
  · rw [upd_ne (fun e => hF (m.fm b (by rw [← e]; exact z)))]
    exact m.kp c z o' e
  · obtain ⟨t, k, l⟩ := m.kt a L h
    refine ⟨t, fun o' e n => ?_, fun c hc o' e n => ?_⟩
    · rw [upd_ne (hu a L t)]; exact k o' e n
    · rw [upd_ne (fun z => (s.wf.ra b hρ).2 (by rw [← z]; exact s.TO t c hc))]; exact l c hc o' e n
theorem Po.ktR {b : Addr} {o : HO} (p : Po w0 H0 w H) (s : St G w H st) (hρ : b ∈ w.ρ) (hu : ∀ a L, w.T a = some L → a ≠ b) : ∀ a L, w0.T a = some L → w.T a = some L ∧ (∀ o', H0 a = some o' → (∀ ps, o' ≠ .tbl ps) → upd H b o a = some o') ∧ ∀ c ∈ L, ∀ o', H0 c = some o' → (∀ ps, o' ≠ .tbl ps) → Kp o' (upd H b o c) := fun a L h => by
  obtain ⟨t, k, l⟩ := p.kt a L h
  refine ⟨t, fun o' e n => ?_, fun c hc o' e n => ?_⟩
  · rw [upd_ne (hu a L t)]; exact k o' e n
  · rw [upd_ne (fun z => (s.wf.ra b hρ).2 (by rw [← z]; exact s.TO t c hc))]; exact l c hc o' e n
end
/-- where the block stands: from the def's entry (w0, H0), a loop's start (wL, HL) on -/
structure At (G : Gx) (w0 : Wd) (H0 : Hp) (wL : Wd) (HL : Hp) (w : Wd) (H : Hp) (σ : L2.St) (ρ : Env) (Os : List (List Addr)) (st : Sto) : Prop where
  po : Po w0 H0 w H
  mo : Mo wL HL w H
  g : Gd G w H σ ρ Os st
  nw : ∀ a ∈ Os.flatten, H0 a = none
def OutS (G : Gx) (w0 : Wd) (H0 : Hp) (wL : Wd) (HL : Hp) (r : R (Fl × Env)) (W : WX) (E : Ends) : Prop := match r with
  | .ok (.nx, ρ) st => ∀ σ w H Os, At G w0 H0 wL HL w H σ ρ Os st → E.nx σ H
  | .ok (.bk, ρ) st => ∀ σ w H Os, At G w0 H0 wL HL w H σ ρ Os st → E.bk σ H
  | .ok (.ct, ρ) st => ∀ σ w H Os, At G w0 H0 wL HL w H σ ρ Os st → E.ct σ H
  | .ok (.rt d, _) st => ∀ v w H, Po w0 H0 w H → Mo wL HL w H → St G w H st → FR G w H d v → E.rt v H
  | .ex c p st => ∀ d σ w H, Po w0 H0 w H → Mo wL HL w H → St G w H st → XR G w H p d → W (.ref (G.ex c)) d σ H
  | .no => False
def tS (G : Gx) (P : Pr) (W : WX) (w0 : Wd) (H0 : Hp) (wL : Wd) (HL : Hp) (s : S) : TS := fun E σ H => ∃ w ρ Os st, At G w0 H0 wL HL w H σ ρ Os st ∧ OutS G w0 H0 wL HL (evS P s ρ st) W E
def tSs (G : Gx) (P : Pr) (W : WX) (w0 : Wd) (H0 : Hp) (wL : Wd) (HL : Hp) (s : List S) : TS := fun E σ H => ∃ w ρ Os st, At G w0 H0 wL HL w H σ ρ Os st ∧ OutS G w0 H0 wL HL (evSs P s ρ st) W E
def DS (X : Cx) (G : Gx) (P : Pr) (p : Stmt) (s : S) : Prop := ∀ W w0 H0 wL HL, TkM P.nm X W → PS X p (tS G P W w0 H0 wL HL s)
def DSs (X : Cx) (G : Gx) (P : Pr) (p : List Stmt) (s : List S) : Prop := ∀ W w0 H0 wL HL, TkM P.nm X W → PSs X p (tSs G P W w0 H0 wL HL s)

section
variable {G : Gx} {P : Pr} {W : WX} {w0 w wL : Wd} {H0 H HL : Hp} {σ : L2.St} {ρ : Env} {Os : List (List Addr)} {st : Sto} {E : Ends}
theorem OutS.bind {α : Type} {m : M α} {f : α → M (Fl × Env)} (h : OutS G w0 H0 wL HL ((m >>= f) st) W E) : (∃ a st1, m st = .ok a st1 ∧ OutS G w0 H0 wL HL (f a st1) W E) ∨ ∃ c p st1, m st = .ex c p st1 ∧ ∀ d σ w H, Po w0 H0 w H → Mo wL HL w H → St G w H st1 → XR G w H p d → W (.ref (G.ex c)) d σ H := by
  have e : (m >>= f) st = match m st with
    | .ok a s1 => f a s1
    | .ex c p s1 => .ex c p s1
    | .no => .no := rfl
  rw [e] at h
  cases q : m st with
  | ok a s1 => rw [q] at h; exact .inl ⟨a, s1, rfl, h⟩
  | ex c p s1 => rw [q] at h; exact .inr ⟨c, p, s1, rfl, h⟩
  | no => rw [q] at h; exact h.elim
theorem OutS.run {α β : Type} {Rel : Wd → Hp → Hp → α → β → Prop} {m : M α} {f : α → M (Fl × Env)} {Q : β → Hp → Prop} (a0 : At G w0 H0 wL HL w H σ ρ Os st) (h : OutS G w0 H0 wL HL ((m >>= f) st) W E)
    (k : ∀ a st1 b w1 H1, Po w H w1 H1 → Po w0 H0 w1 H1 → St G w1 H1 st1 → Rel w1 H1 H a b → OutS G w0 H0 wL HL (f a st1) W E → Q b H1) : Out G Rel w H (m st) (WS W σ) Q := by
  rcases h.bind with ⟨a, st1, e, o⟩ | ⟨c, p, st1, e, o⟩
  · rw [e]
    exact fun b w1 H1 p s r => k a st1 b w1 H1 p (a0.po.trans p) s r o
  · rw [e]
    exact fun d w1 H1 p s x => o d σ w1 H1 (a0.po.trans p) (a0.mo.trans (p.mo a0.g.s.wf)) s x
theorem OutS.ofO {α : Type} {o : Option α} {f : α → M (Fl × Env)} (h : OutS G w0 H0 wL HL ((PV.ofO o >>= f) st) W E) : ∃ a, o = some a ∧ OutS G w0 H0 wL HL (f a st) W E := by
  cases o with
  | none => exact False.elim h
  | some a => exact ⟨a, rfl, h⟩
theorem OutS.pure {α : Type} {a : α} {f : α → M (Fl × Env)} (h : OutS G w0 H0 wL HL ((Pure.pure a >>= f) st) W E) : OutS G w0 H0 wL HL (f a st) W E := h
theorem At.po' {w' : Wd} {H' : Hp} {st' : Sto} (a : At G w0 H0 wL HL w H σ ρ Os st) (p : Po w H w' H') (s : St G w' H' st') : At G w0 H0 wL HL w' H' σ ρ Os st' := ⟨a.po.trans p, a.mo.trans (p.mo a.g.s.wf), a.g.po p s, a.nw⟩
/-- an expression ahead of more -/
theorem tE_S {e : PV.E} {f : KD → M (Fl × Env)} {K : VK} (a : At G w0 H0 wL HL w H σ ρ Os st) (h : OutS G w0 H0 wL HL ((evE P e ρ >>= f) st) W E)
    (k : ∀ x st1 v w1 H1, At G w0 H0 wL HL w1 H1 σ ρ Os st1 → Po w H w1 H1 → KR G Os w1 H1 H x v → OutS G w0 H0 wL HL (f x st1) W E → K v H1) : tE G P W e σ H K :=
  ⟨w, ρ, Os, st, a.g, h.run a fun x st1 v w1 H1 p _ s r o => k x st1 v w1 H1 (a.po' p s) p r o⟩
theorem tT_S {e : PV.E} {f : Bool → M (Fl × Env)} {K : Bool → Hp → Prop} (a : At G w0 H0 wL HL w H σ ρ Os st) (h : OutS G w0 H0 wL HL ((evB P e ρ >>= f) st) W E)
    (k : ∀ x st1 w1 H1, At G w0 H0 wL HL w1 H1 σ ρ Os st1 → Po w H w1 H1 → OutS G w0 H0 wL HL (f x st1) W E → K x H1) : tT G P W e σ H K :=
  ⟨w, ρ, Os, st, a.g, h.run a fun x st1 v w1 H1 p _ s (r : x = v) o => by subst r; exact k x st1 w1 H1 (a.po' p s) p o⟩
theorem tA_S {es : List PV.E} {f : List KD → M (Fl × Env)} {K : List V → Hp → Prop} (a : At G w0 H0 wL HL w H σ ρ Os st) (h : OutS G w0 H0 wL HL ((evEs P es ρ >>= f) st) W E)
    (k : ∀ x st1 v w1 H1, evEs P es ρ st = .ok x st1 → At G w0 H0 wL HL w1 H1 σ ρ Os st1 → Po w H w1 H1 → KRs G Os w1 H1 H x v → OutS G w0 H0 wL HL (f x st1) W E → K v H1) : tA G P W es σ H K := by
  refine ⟨w, ρ, Os, st, a.g, ?_⟩
  rcases h.bind with ⟨x, st1, e, o⟩ | ⟨c, p, st1, e, o⟩
  · rw [e]
    exact fun b w1 H1 p s r => k x st1 b w1 H1 e (a.po' p s) p r o
  · rw [e]
    exact fun d w1 H1 p s x => o d σ w1 H1 (a.po.trans p) (a.mo.trans (p.mo a.g.s.wf)) s x
end
/-- a value that may be stored, with its places -/
def KRx (G : Gx) (w : Wd) (H H0 : Hp) (x : KD) (v : V) (O : List Addr) : Prop := match x.1 with
  | .fz => FR G w H x.2 v ∧ O = []
  | .an => (∀ l, VR G w H (l + 1) O x.2 v) ∧ O.Nodup ∧ ∀ a ∈ O, H0 a = none ∧ a ∉ w.O
  | .fr l => VR G w H l O x.2 v ∧ O.Nodup ∧ ∀ a ∈ O, H0 a = none ∧ a ∉ w.O
  | .bo _ => False
  | .lk => False
section
variable {G : Gx} {w w' : Wd} {H H' H0 : Hp} {x : KD} {v : V} {O : List Addr} {Os : List (List Addr)}
theorem KR.toX {lv l : Nat} (h : KR G Os w H H0 x v) (e : slotL lv x.1 = some l) : ∃ O, KRx G w H H0 x v O := by
  obtain ⟨k, d⟩ := x
  cases k with
  | fz => exact ⟨[], h, rfl⟩
  | an => exact h
  | fr l' => exact h
  | bo l' => cases e
  | lk => cases e
theorem KRx.po (wf : Wf G w H) (p : Po w H w' H') (h : KRx G w H H0 x v O) : KRx G w' H' H0 x v O := by
  obtain ⟨k, d⟩ := x
  cases k with
  | fz => exact ⟨FR.po wf p h.1, h.2⟩
  | an => exact ⟨fun l => (h.1 l).po wf p fun a z => (h.2.2 a z).2, h.2.1, fun a z => ⟨(h.2.2 a z).1, p.outO ((h.1 0).there a z).1 (h.2.2 a z).2⟩⟩
  | fr l => exact ⟨VR.po wf p h.1 fun a z => (h.2.2 a z).2, h.2.1, fun a z => ⟨(h.2.2 a z).1, p.outO (VR.there h.1 a z).1 (h.2.2 a z).2⟩⟩
  | bo l => exact h.elim
  | lk => exact h.elim
theorem KRx.there (h : KRx G w H H0 x v O) : ∀ a ∈ O, H a ≠ none ∧ H0 a = none := by
  obtain ⟨k, d⟩ := x
  cases k with
  | fz => obtain ⟨_, rfl⟩ := h; exact fun a z => nomatch z
  | an => exact fun a z => ⟨((h.1 0).there a z).1, (h.2.2 a z).1⟩
  | fr l => exact fun a z => ⟨(VR.there h.1 a z).1, (h.2.2 a z).1⟩
  | bo l => exact h.elim
  | lk => exact h.elim
theorem KRx.apart {F : List Addr} (h : KRx G w H H0 x v O) (hF : ∀ a ∈ O, a ∉ F) : KRx G (w.frz F) H H0 x v O := by
  obtain ⟨k, d⟩ := x
  cases k with
  | fz => exact ⟨FR.frz h.1, h.2⟩
  | an => exact ⟨fun l => (h.1 l).apart hF, h.2⟩
  | fr l => exact ⟨VR.apart h.1 hF, h.2⟩
  | bo l => exact h.elim
  | lk => exact h.elim
theorem frs_vrsZ {w : Wd} {H : Hp} : ∀ {ds : List D} {us : List V}, FRs G w H ds us → VRs G w H 0 [] ds us
  | _, _, .nil => .nil
  | _, _, .cons n q qs => .cons (O := []) (O' := []) n (.zero q) (frs_vrsZ qs)
/-- what the items hold as their own is frozen -/
theorem VR.part {l : Nat} {O : List Addr} {d : D} {v : V} (h : VR G w H l O d v) (hl : 1 ≤ l) (nd : O.Nodup) : ∃ F O', (∀ b ∈ F, b ∈ O) ∧ (∀ b ∈ O', b ∈ O) ∧ O'.Nodup ∧ VR G (w.frz F) H 1 O' d v := by
  cases h with
  | zero h => omega
  | nc hc h => exact ⟨[], [], (fun _ z => z), (fun _ z => z), List.nodup_nil, .nc hc h.frz⟩
  | lst h hf hn hs =>
    have nd := List.nodup_cons.mp nd
    exact ⟨_, [_], (fun b z => List.mem_cons_of_mem _ z), (fun b z => List.mem_cons.mpr (.inl (List.mem_singleton.mp z))), by simp, .lst h (fun z => z.elim hf nd.1) hn (frs_vrsZ (hs.frz fun _ z => z))⟩
  | dic h hf hn hs =>
    have nd := List.nodup_cons.mp nd
    exact ⟨_, [_], (fun b z => List.mem_cons_of_mem _ z), (fun b z => List.mem_cons.mpr (.inl (List.mem_singleton.mp z))), by simp, .dic h (fun z => z.elim hf nd.1) hn (frs_vrsZ (hs.frz fun _ z => z))⟩
  | dit h hf hn hs =>
    have nd := List.nodup_cons.mp nd
    exact ⟨_, [_], (fun b z => List.mem_cons_of_mem _ z), (fun b z => List.mem_cons.mpr (.inl (List.mem_singleton.mp z))), by simp, .dit h (fun z => z.elim hf nd.1) hn (frs_vrsZ (hs.frz fun _ z => z))⟩
/-- a value comes to stand in a slot: F is frozen, O' is the slot's own -/
theorem At.set {w0 wL : Wd} {H0 Hb HL : Hp} {σ : L2.St} {ρ : Env} {st : Sto} {i lv l : Nat} (a : At G w0 H0 wL HL w H σ ρ Os st) (hb : ∀ b, Hb b = none → H0 b = none) (hd : ∀ b ∈ Os.flatten, b ∉ O) (r : KRx G w H Hb x v O) (e : slotL lv x.1 = some l) :
    ∃ F O', (∀ b ∈ F, b ∈ O) ∧ (∀ b ∈ O', b ∈ O) ∧ At G w0 H0 wL HL (w.frz F) H (σ.set i (some v)) (ρ.set i (some (l, x.2))) (Os.set i O') st := by
  have base : ∀ {F O' : List Addr}, (∀ b ∈ F, b ∈ O) → (∀ b ∈ O', b ∈ O) → Own w H Hb F → VR G (w.frz F) H l O' x.2 v → O'.Nodup → (∀ b ∈ O', Hb b = none ∧ b ∉ w.O) → At G w0 H0 wL HL (w.frz F) H (σ.set i (some v)) (ρ.set i (some (l, x.2))) (Os.set i O') st := fun {F O'} sF sO own hv nd hO => by
    have s1 := a.g.s.frz own
    have pF : Po w0 H0 (w.frz F) H := a.po.frz fun b z => hb b (own b z).1
    have slF : SL G (w.frz F) H σ ρ Os := a.g.sl.apart fun b z z' => hd b z (sF b z')
    have gF : Gd G (w.frz F) H σ ρ Os st := ⟨s1, slF, a.g.nd, a.g.ap⟩
    refine ⟨pF, a.mo.frz, gF.set i hv nd (fun b z z' => hd b z' (sO b z)) fun b z => (hO b z).2, fun b z => ?_⟩
    rcases mem_setO z with z | z
    · exact hb b (hO b z).1
    · exact a.nw b z
  obtain ⟨k, d⟩ := x
  cases k with
  | fz =>
    cases e
    obtain ⟨f, rfl⟩ := r
    exact ⟨[], [], fun b z => z, fun b z => z, base (fun b z => z) (fun b z => z) Own.nil (.zero (FR.frz f)) List.nodup_nil fun _ z => nomatch z⟩
  | an =>
    have e : lv = l := Option.some.inj e
    subst e
    obtain ⟨hv, nd, hO⟩ := r
    cases lv with
    | zero => exact ⟨O, [], fun b z => z, (fun b z => nomatch z), base (fun b z => z) (fun b z => nomatch z) ((hv 0).own hO) (.zero ((hv 0).frz fun _ z => z)) List.nodup_nil fun _ z => nomatch z⟩
    | succ l => exact ⟨[], O, (fun b z => nomatch z), (fun b z => z), base (fun b z => nomatch z) (fun b z => z) Own.nil ((hv l).apart fun _ _ z => nomatch z) nd hO⟩
  | fr l' =>
    obtain ⟨hv, nd, hO⟩ := r
    unfold slotL at e
    dsimp only at e
    by_cases c : lv = 0
    · rw [if_pos c] at e
      cases e
      exact ⟨O, [], fun b z => z, (fun b z => nomatch z), base (fun b z => z) (fun b z => nomatch z) (VR.own hv hO) (.zero (VR.frz hv fun _ z => z)) List.nodup_nil fun _ z => nomatch z⟩
    · rw [if_neg c] at e
      by_cases c2 : l' = lv
      · rw [if_pos c2] at e
        cases e
        subst c2
        exact ⟨[], O, (fun b z => nomatch z), (fun b z => z), base (fun b z => nomatch z) (fun b z => z) Own.nil (VR.apart hv fun _ _ z => nomatch z) nd hO⟩
      · rw [if_neg c2] at e
        by_cases c3 : lv = 1 ∧ 1 < l'
        · rw [if_pos c3] at e
          cases e
          obtain ⟨F, O', sF, sO, nd', hv'⟩ := hv.part (by omega) nd
          exact ⟨F, O', sF, sO, base sF sO (fun b z => VR.own hv hO b (sF b z)) hv' nd' fun b z => hO b (sO b z)⟩
        · rw [if_neg c3] at e
          cases e
  | bo l' => exact r.elim
  | lk => exact r.elim
end
end PV

/-! part PV21 -/
/-! PV21: the rules for plain statements. -/
namespace PV
open PySem L2 LamX NdefX

section
variable {X : Cx} {G : Gx} {P : Pr} {pos : Pos}
theorem ims {s : Stmt} {t t' : TS} (h : PS X s t) (i : ∀ E σ H, t' E σ H → t E σ H) : PS X s t' := ⟨fun pins s σ H E I q => h.run pins s σ H E I (i E σ H q)⟩
theorem imss {s : List Stmt} {t t' : TS} (h : PSs X s t) (i : ∀ E σ H, t' E σ H → t E σ H) : PSs X s t' := ⟨fun pins s σ H E I q => h.run pins s σ H E I (i E σ H q)⟩
section
variable {W : WX} {w0 w wL : Wd} {H0 H HL : Hp} {σ : L2.St} {ρ : Env} {Os : List (List Addr)} {st : Sto} {E : Ends}
theorem fin_nx {ρ' : Env} {st' : Sto} {σ' : L2.St} {w' : Wd} {H' : Hp} {Os' : List (List Addr)} (o : OutS G w0 H0 wL HL ((pure (.nx, ρ') : M (Fl × Env)) st') W E) (a : At G w0 H0 wL HL w' H' σ' ρ' Os' st') : E.nx σ' H' := o _ _ _ _ a
theorem OutS.keep1 {x : KD} {f : D → M (Fl × Env)} (h : OutS G w0 H0 wL HL ((PV.keep x >>= f) st) W E) : keepB x.1 = true ∧ OutS G w0 H0 wL HL (f x.2 st) W E := by
  unfold PV.keep at h
  cases e : keepB x.1 with
  | true => rw [e] at h; exact ⟨rfl, h⟩
  | false => rw [e] at h; exact h.elim
/-- a value that is kept: frozen -/
theorem At.frz {w1 : Wd} {H1 : Hp} {O : List Addr} (a : At G w0 H0 wL HL w1 H1 σ ρ Os st) (own : Own w1 H1 H O) (hb : ∀ b, H b = none → H0 b = none) (hd : ∀ b ∈ Os.flatten, H b ≠ none) : At G w0 H0 wL HL (w1.frz O) H1 σ ρ Os st :=
  ⟨a.po.frz fun b z => hb b (own b z).1, a.mo.frz, ⟨a.g.s.frz own, a.g.sl.apart fun b z z' => hd b z (own b z').1, a.g.nd, a.g.ap⟩, a.nw⟩
theorem At.osT (a : At G w0 H0 wL HL w H σ ρ Os st) : ∀ b ∈ Os.flatten, H b ≠ none := fun b z => (a.g.sl.there b z).1
end
theorem ds_ret {p : Expr} {e : PV.E} (h : DE X G P p e) : DS X G P (.Return (some p) pos) (.ret e) := fun W w0 H0 wL HL tk => ims (ps_ret (h W tk)) fun E σ H ⟨w, ρ, Os, st, a, o⟩ => by
  rw [evS] at o
  refine tE_S a o fun x st1 v w1 H1 a1 p1 k1 o1 => ?_
  obtain ⟨c, o2⟩ := o1.keep1
  obtain ⟨O, own, fr⟩ := k1.sees c
  have a2 := a1.frz own a.po.th a.osT
  exact o2 v _ H1 a2.po a2.mo a2.g.s (fr O fun _ z => z)
theorem ds_exp {p : Expr} {e : PV.E} (h : DE X G P p e) (hs : swapsWith p none pos.line X.env = pure false := by rfl) : DS X G P (.Expr p pos) (.exp e) := fun W w0 H0 wL HL tk => ims (ps_expr (h W tk) hs) fun E σ H ⟨w, ρ, Os, st, a, o⟩ => by
  rw [evS] at o
  exact tE_S a o fun x st1 v w1 H1 a1 p1 k1 o1 => fin_nx o1 a1
theorem ds_ite {pc : Expr} {pa pb : List Stmt} {c : PV.E} {sa sb : List S} (hc : DT X G P pc c) (ha : DSs X G P pa sa) (hb : DSs X G P pb sb) : DS X G P (.If pc pa pb pos) (.ite c sa sb) := fun W w0 H0 wL HL tk =>
  ims (ps_if (hc W tk) (ha W w0 H0 wL HL tk) (hb W w0 H0 wL HL tk)) fun E σ H ⟨w, ρ, Os, st, a, o⟩ => by
    rw [evS] at o
    refine tT_S a o fun t st1 w1 H1 a1 p1 o1 => ?_
    cases t with
    | true => exact ⟨w1, ρ, Os, st1, a1, o1⟩
    | false => exact ⟨w1, ρ, Os, st1, a1, o1⟩
theorem dss_nil : DSs X G P [] [] := fun W w0 H0 wL HL _ => imss pss_nil fun E σ H ⟨w, ρ, Os, st, a, o⟩ => by
  rw [evSs] at o
  exact fin_nx o a
theorem dss_cons {p : Stmt} {ps : List Stmt} {s : S} {ss : List S} (h : DS X G P p s) (hs : DSs X G P ps ss) : DSs X G P (p :: ps) (s :: ss) := fun W w0 H0 wL HL tk =>
  imss (pss_cons (h W w0 H0 wL HL tk) (hs W w0 H0 wL HL tk)) fun E σ H ⟨w, ρ, Os, st, a, o⟩ => by
    rw [evSs] at o
    refine ⟨w, ρ, Os, st, a, ?_⟩
    rcases o.bind with ⟨⟨f, ρ1⟩, st1, e, o⟩ | ⟨c, p, st1, e, o⟩
    · rw [e]
      cases f with
      | nx => exact fun σ1 w1 H1 Os1 a1 => ⟨w1, ρ1, Os1, st1, a1, o⟩
      | bk => exact o
      | ct => exact o
      | rt d => exact o
    · rw [e]
      exact o
/-! assignments -/
section
variable {W : WX} {w0 w wL : Wd} {H0 H HL : Hp} {σ : L2.St} {ρ : Env} {Os : List (List Addr)} {st : Sto} {E : Ends}
theorem OutS.setM {i lv : Nat} {x : KD} {f : Env → M (Fl × Env)} (h : OutS G w0 H0 wL HL ((PV.setM i lv x ρ >>= f) st) W E) : ∃ l, slotL lv x.1 = some l ∧ OutS G w0 H0 wL HL (f (ρ.set i (some (l, x.2))) st) W E := by
  unfold PV.setM at h
  rw [M.assoc] at h
  obtain ⟨l, e, o⟩ := h.ofO
  exact ⟨l, e, o⟩
theorem set_fin {i lv : Nat} {x : KD} {v : V} {w1 : Wd} {H1 : Hp} {st1 : Sto} (a : At G w0 H0 wL HL w H σ ρ Os st) (a1 : At G w0 H0 wL HL w1 H1 σ ρ Os st1) (k1 : KR G Os w1 H1 H x v) (o : OutS G w0 H0 wL HL ((PV.setM i lv x ρ >>= fun ρ1 => pure (.nx, ρ1)) st1) W E) : E.nx (σ.set i (some v)) H1 := by
  obtain ⟨l, e, o⟩ := o.setM
  obtain ⟨O, kx⟩ := k1.toX e
  obtain ⟨F, O', _, _, a2⟩ := a1.set a.po.th (fun b z z' => a.osT b z (kx.there b z').2) kx e
  exact fin_nx o a2
end
theorem ds_set {i lv : Nat} {x : Str} {p : Expr} {e : PV.E} {pos' : Pos} (hN : X.N.Nodup) (hi : X.N[i]? = some x) (hx : Loc X.env.scope x) (hf : X.fn x = true ∨ X.env.scope.names.lookup x = some .local) (h : DE X G P p e) (hs : swapsWith p (some (.Name x pos')) pos.line X.env = pure false := by rfl) :
    DS X G P (.Assign [.Name x pos'] p pos) (.set i lv e) := fun W w0 H0 wL HL tk => ims (ps_set hN hi hx (h W tk) hs hf) fun E σ H ⟨w, ρ, Os, st, a, o⟩ => by
  rw [evS] at o
  exact tE_S a o fun x st1 v w1 H1 a1 p1 k1 o1 => set_fin a a1 k1 o1
theorem ds_sett {pt p : Expr} {t : Tg} {e : PV.E} (hg : DG X G pt t) (h : DE X G P p e) (hs : swapsWithSole [pt] p pos.line X.env = pure false := by rfl) (hw : swappedStores [pt] p X.env = pure none := by rfl) (h1 : (assignEach [pt] X.env).map (·.2) = [assign pt X.env] := by rfl) :
    DS X G P (.Assign [pt] p pos) (.sett t e) := fun W w0 H0 wL HL tk => ims (ps_asg (h W tk) hg hs hw h1) fun E σ H ⟨w, ρ, Os, st, a, o⟩ => by
  rw [evS] at o
  refine tE_S a o fun x st1 v w1 H1 a1 p1 k1 o1 => ?_
  obtain ⟨c, o2⟩ := o1.keep1
  obtain ⟨O, own, fr⟩ := k1.sees c
  have a2 := a1.frz own a.po.th a.osT
  obtain ⟨ρ1, e1, o3⟩ := o2.ofO
  exact ⟨_, ρ, Os, st1, x.2, ρ1, a2.g, fr O (fun _ z => z), e1, fun σ1 Os1 g1 sm sub => fin_nx o3 ⟨a2.po, a2.mo, g1, fun b z => a2.nw b (sub b z)⟩⟩
/-- a, b = e, f -/
theorem ds_par {i li j lj : Nat} {x y : Str} {pa pb : Expr} {ea eb : PV.E} {px py pt : Pos} {kt k2 pt2} (hc : X.calm = true) (hN : X.N.Nodup) (hi : X.N[i]? = some x) (hj : X.N[j]? = some y) (hij : i ≠ j)
    (hx : X.env.scope.names.lookup x = some .local) (hy : X.env.scope.names.lookup y = some .local) (ha : DE X G P pa ea) (hb : DE X G P pb eb)
    (hw : swappedStores [.Tuple [.Name x px, .Name y py] kt pt] (.Tuple [pa, pb] k2 pt2) X.env = pure (some [x, y]) := by rfl)
    (hs : swapsWithSole [.Tuple [.Name x px, .Name y py] kt pt] (.Tuple [pa, pb] k2 pt2) pos.line X.env = pure false := by rfl)
    (h1 : starEach [pa, pb] X.env = (false, eval pa X.env) :: starEach [pb] X.env := by rfl) (h2 : starEach [pb] X.env = (false, eval pb X.env) :: starEach [] X.env := by rfl) :
    DS X G P (.Assign [.Tuple [.Name x px, .Name y py] kt pt] (.Tuple [pa, pb] k2 pt2) pos) (.par i li j lj ea eb) := fun W w0 H0 wL HL tk =>
  ims (ps_par hc hN hi hj hij hx hy (pa_cons (ha W tk) (pa_cons (hb W tk) pa_nil h2) h1) hw hs) fun E σ H ⟨w, ρ, Os, st, a, o⟩ => by
    rw [evS] at o
    refine tE_S a o fun x st1 v w1 H1 a1 p1 k1 o1 => ?_
    refine tE_S a1 o1 fun y st2 u w2 H2 a2 p2 k2 o2 => ?_
    refine ⟨v, u, rfl, ?_⟩
    obtain ⟨l, e, o3⟩ := o2.setM
    obtain ⟨O, kx⟩ := k1.toX e
    obtain ⟨F, O', sF, sO, a3⟩ := a2.set a.po.th (fun b z z' => a.osT b z (kx.there b z').2) (kx.po a1.g.s.wf p2) e
    obtain ⟨l2, e2, o4⟩ := o3.setM
    obtain ⟨Oy, ky⟩ := k2.toX e2
    obtain ⟨F2, O2, _, _, a4⟩ := a3.set a1.po.th (fun b z z' => by
      have q := (ky.there b z').2
      rcases mem_setO z with z | z
      · exact (kx.there b (sO b z)).1 q
      · exact a1.osT b z q) (ky.apart fun b z z' => (kx.there b (sF b z')).1 (ky.there b z).2) e2
    exact fin_nx o4 a4
end
end PV

/-! part PV22 -/
/-! PV22: loops; what a for statement walks. -/
noncomputable section
namespace PV
open PySem L2 LamX NdefX

/-- the iterator J yields these data, whatever statements run between -/
structure WalkM (G : Gx) (w1 : Wd) (H1 : Hp) (J : It) (ds : List D) : Prop where
  go : ∀ w H i, Mo w1 H1 w H → i < ds.length → J.go i H
  stop : ∀ w H i, Mo w1 H1 w H → ds.length ≤ i → J.stop i H
  yld : ∀ w H st i d x H', Mo w1 H1 w H → St G w H st → ds[i]? = some d → J.yld i H x H' → ∃ w', Po w H w' H' ∧ St G w' H' st ∧ FR G w' H' d x
def IRM (G : Gx) (w : Wd) (H H0 : Hp) (ds : List D) (J : It) : Prop := WalkM G w H J ds ∧ ds.length ≤ sizeLine
def evIS (P : Pr) (ik : Ik) (src : List E) (ρ : Env) : M (List D) := evEs P src ρ >>= fun xs => if forB xs then itD ik xs else no
def tIS (G : Gx) (P : Pr) (W : WX) (ik : Ik) (src : List E) : TI := fun σ H R => ∃ w ρ Os st, Gd G w H σ ρ Os st ∧ Out G (IRM G) w H (evIS P ik src ρ st) (WS W σ) R
def DIS (X : Cx) (G : Gx) (P : Pr) (tg it : Expr) (ik : Ik) (src : List E) : Prop := ∀ W, TkM P.nm X W → PI X tg it (tIS G P W ik src)

section
variable {G : Gx} {w : Wd} {H H0 : Hp} {Os : List (List Addr)}
theorem Hd.keepM {w' : Wd} {H' : Hp} {a : Addr} {o : HO} (n : Hd w a) (m : Mo w H w' H') (h : H a = some o) (nt : ∀ ps, o ≠ .tbl ps) : Kp o (H' a) :=
  n.elim (fun n => m.kp a n o h) fun ⟨r, L, t, hb⟩ => hb.elim (fun hb => (m.kt r L t).2.2 a hb o h nt) fun e => by subst e; exact Kp.eq ((m.kt _ L t).2.1 o h nt)
/-- a list that a for statement may walk -/
theorem KR.heldL {k : Kd} {ds : List D} {v : V} (h : KR G Os w H H0 (k, .lst ds) v) (hk : walkB k = true) : ∃ O a vs, Own w H H0 O ∧ v = .ref a ∧ H a = some (.lst vs) ∧ ∀ O', (∀ a ∈ O, a ∈ O') → Hd (w.frz O') a ∧ FRs G (w.frz O') H ds vs := by
  by_cases cl : k = .lk
  · subst cl
    obtain ⟨O, hv, hO⟩ := h
    obtain ⟨a, vs, e, ha, hs, eO⟩ := hv.lk_lst
    exact ⟨[], a, vs, Own.nil, e, ha, fun O' _ => ⟨.inr (hO a (by rw [eO]; simp)).1, hs.frz⟩⟩
  · have c1 : keepB k = true := by cases k <;> first | rfl | exact hk | exact absurd rfl cl
    obtain ⟨O, own, fr⟩ := h.sees c1
    obtain ⟨a, vs, e, hf, ha, hs⟩ := (fr O fun _ z => z).lst_inv
    refine ⟨O, a, vs, own, e, ha, fun O' hO => ?_⟩
    obtain ⟨a', vs', e', hf', ha', hs'⟩ := (fr O' hO).lst_inv
    rw [e] at e'
    cases e'
    rw [ha] at ha'
    cases ha'
    exact ⟨.inl hf', hs'⟩
theorem itM_list {K : PySem.W.Frag} {a : Addr} {vs : List V} {ds : List D} (hf : Hd w a) (ha : H a = some (.lst vs)) (fs : FRs G w H ds vs) : WalkM G w H (Itl K a) ds := by
  have at' : ∀ {w' H'}, Mo w H w' H' → H' a = some (.lst vs) := fun p => hf.keepM p ha fun ps e => by cases e
  have hl := fs.length
  refine ⟨fun w' H' i p hi => ⟨vs, vs[i]'(by omega), .of (at' p), List.getElem?_eq_getElem _⟩, fun w' H' i p hi => ⟨vs, .of (at' p), by omega⟩, fun w' H' st i d x H2 p s' e y => ?_⟩
  obtain ⟨e2, y⟩ := y
  subst e2
  obtain ⟨v, ev, fv⟩ := (fs.mo p).get e
  have := y vs (.of (at' p))
  rw [ev] at this
  cases this
  exact ⟨w', Po.refl _ _, s', fv⟩
theorem FT.mo {G : Gx} {w' : Wd} {H' : Hp} {a : Addr} {vs : List V} (m : Mo w H w' H') (h : FT G w.F H a vs) : FT G w'.F H' a vs := h.elim (fun h => .inl ⟨m.fm _ h.1, h.2.elim (fun e => .inl (m.kp _ h.1 _ e)) fun ⟨k, o, e⟩ => .inr ⟨k, o, m.kp _ h.1 _ e⟩⟩) .inr
theorem itM_tup {a : Addr} {vs : List V} {ds : List D} (ha : FT G w.F H a vs) (fs : FRs G w H ds vs) : WalkM G w H (Itt G.K a) ds := by
  have hl := fs.length
  refine ⟨fun w' H' i p hi => ⟨vs, vs[i]'(by omega), (ha.mo p).sqt, List.getElem?_eq_getElem _⟩, fun w' H' i p hi => ⟨vs, (ha.mo p).sqt, by omega⟩, fun w' H' st i d x H2 p s' e y => ?_⟩
  obtain ⟨e2, y⟩ := y
  subst e2
  obtain ⟨v, ev, fv⟩ := (fs.mo p).get e
  have := y vs (ha.mo p).sqt
  rw [ev] at this
  cases this
  exact ⟨w', Po.refl _ _, s', fv⟩
end
section
variable {X : Cx} {G : Gx} {P : Pr} {pos : Pos} {tg : Expr}
/-- a walked thing, its arguments frozen -/
theorem evIS_bind {P : Pr} {e : E} {ik : Ik} {ρ : Env} : evIS P ik [e] ρ = evE P e ρ >>= fun x => if forB [x] then itD ik [x] else no := by
  unfold evIS
  rw [evEs_cons, evEs_nil, M.assoc]
  rfl
theorem args1 {x : KD} : forB [x] = walkB x.1 := by simp [forB]
/-- the three walks of a locked dict -/
theorem itM_dk {w : Wd} {H : Hp} {a : Addr} {ob : Obj} {kvs : List (Ky × D)} {vs : List V} (hf : Hd w a) (ha : H a = some (.frz ob (.dK (zK kvs vs)))) (fs : FRs G w H (kvs.map (·.2)) vs) :
    WalkM G w H (Itk a ob (zK kvs vs)) (kvs.map fun p => keyD p.1) ∧ WalkM G w H (Itd a ob (zK kvs vs)) (kvs.map (·.2)) ∧ WalkM G w H (Iti a ob (zK kvs vs)) (kvs.map fun p => .tup [keyD p.1, p.2]) := by
  have at' : ∀ {w' H'}, Mo w H w' H' → H' a = some (.frz ob (.dK (zK kvs vs))) := fun p => hf.keepM p ha fun ps e => by cases e
  have hl := zK_len fs.length
  refine ⟨⟨fun w' H' i p hi => ⟨at' p, ?_⟩, fun w' H' i p hi => ⟨at' p, ?_⟩, fun w' H' st i d x H2 p s' e y => ?_⟩, ⟨fun w' H' i p hi => ⟨at' p, ?_⟩, fun w' H' i p hi => ⟨at' p, ?_⟩, fun w' H' st i d x H2 p s' e y => ?_⟩, ⟨fun w' H' i p hi => ⟨at' p, ?_⟩, fun w' H' i p hi => ⟨at' p, ?_⟩, fun w' H' st i d x H2 p s' e y => ?_⟩⟩
  · rw [List.length_map] at hi; omega
  · rw [List.length_map] at hi; omega
  · obtain ⟨e2, k, v, y, rfl⟩ := y
    subst e2
    obtain ⟨p0, e0, rfl⟩ := map_at e
    obtain ⟨p1, e1, e2⟩ := map_at (zK_get y).1
    rw [e0] at e1
    cases e1
    subst e2
    exact ⟨w', Po.refl _ _, s', key_fr _⟩
  · rw [List.length_map] at hi; omega
  · rw [List.length_map] at hi; omega
  · obtain ⟨e2, k, y⟩ := y
    subst e2
    obtain ⟨v, ev, fv⟩ := (fs.mo p).get e
    rw [(zK_get y).2] at ev
    cases ev
    exact ⟨w', Po.refl _ _, s', fv⟩
  · rw [List.length_map] at hi; omega
  · rw [List.length_map] at hi; omega
  · obtain ⟨T, k, v, y, rfl, hT, rfl⟩ := y
    obtain ⟨p0, e0, rfl⟩ := map_at e
    have e3 : (kvs.map (·.2))[i]? = some p0.2 := by rw [List.getElem?_map, e0]; rfl
    obtain ⟨v', ev, fv⟩ := (fs.mo p).get e3
    obtain ⟨p1, e1, e2⟩ := map_at (zK_get y).1
    rw [(zK_get y).2] at ev
    cases ev
    rw [e0] at e1
    cases e1
    subst e2
    obtain ⟨q1, q2, q3⟩ := new_pair s' hT (key_nr _) (fs.noR e3) (key_fr _) fv
    exact ⟨_, q1, q2, q3⟩
theorem dis_seq {p : Expr} {e : E} (hK : X.K = G.K) (h : DE X G P p e) : DIS X G P tg p .seq [e] := fun W tk =>
  imI (orI (orI (pi_list (pe_inv (h W tk))) (pi_tup (pe_inv (h W tk)))) (pi_keys (pe_lkd (pe_inv (h W tk))))) fun σ H R ⟨w, ρ, Os, st, g, ot⟩ => by
    rw [evIS_bind] at ot
    rw [hK]
    by_cases c0 : ∃ x st1 kvs, evE P e ρ st = .ok x st1 ∧ x.2 = .dic kvs
    · refine .inr ⟨w, ρ, Os, st, g, Out.bindq (Po.refl _ _) ot fun x st1 v w1 H1 q p1 s1 k1 o1 => ?_⟩
      rintro ⟨pins, s, I⟩
      obtain ⟨x', st1', kvs, e1, e2⟩ := c0
      rw [q] at e1
      cases e1
      obtain ⟨cx, o1⟩ := o1.ifno
      obtain ⟨kx, dx⟩ := x
      dsimp only at e2
      subst e2
      have o1 : Out G (IRM G) w H ((if walkB kx then pure (kvs.map fun p => keyD p.1) else no : M (List D)) st1) (WS W σ) R := o1
      obtain ⟨c1, o2⟩ := o1.ifno
      obtain ⟨a, vs, rfl, hl, hl2, hh⟩ := dic_walk I p1 s1 k1 c1
      rcases hh with ⟨ob, ha, w2, p2, s2, hf, hs⟩ | ⟨ha, hh⟩
      · exact .inl ⟨a, ob, rfl, .inl ⟨_, ha, Out.fin o2 p2 s2 ⟨(itM_dk hf ha hs).1, by simpa using hl⟩⟩⟩
      · refine .inr ⟨a, _, ha, fun ob => ?_⟩
        obtain ⟨w2, p2, s2, hf, hs⟩ := hh ob
        exact ⟨a, ob, rfl, .inl ⟨_, upd_same, Out.fin o2 p2 s2 ⟨(itM_dk hf upd_same hs).1, by simpa using hl⟩⟩⟩
    · refine .inl ?_
      have cd : ∀ {kx : Kd} {dx : D} {st1 : Sto}, evE P e ρ st = .ok (kx, dx) st1 → itD .seq [(kx, dx)] = (PV.view (kx, dx) >>= fun d => ofO (seqO dx) : M (List D)) := fun {kx dx st1} q => by
        cases dx with
        | dic kvs => exact absurd ⟨_, _, _, q, rfl⟩ c0
        | _ => rfl
      by_cases c : ∃ x st1 as, evE P e ρ st = .ok x st1 ∧ x.2 = .tup as
      · refine .inr ⟨w, ρ, Os, st, g, Out.bindq (Po.refl _ _) ot fun x st1 v w1 H1 q p1 s1 k1 o1 => ?_⟩
        rintro ⟨pins, s, I⟩
        obtain ⟨x', st1', as, e1, e2⟩ := c
        obtain ⟨cx, o1⟩ := o1.ifno
        obtain ⟨kx, dx⟩ := x
        rw [cd q] at o1
        rw [q] at e1
        cases e1
        obtain ⟨_, o3⟩ := o1.view
        dsimp only at e2
        subst e2
        obtain ⟨a, vs, rfl, hf, hs⟩ := k1.tup
        exact ⟨a, rfl, ⟨vs, hf.sqt⟩, Out.fin o3 p1 s1 ⟨itM_tup hf hs, by rw [hs.length]; exact inv_tup I (hK ▸ hf.sqt)⟩⟩
      · refine .inl ⟨w, ρ, Os, st, g, Out.bindq (Po.refl _ _) ot fun x st1 v w1 H1 q p1 s1 k1 o1 => ?_⟩
        rintro ⟨pins, s, I⟩
        obtain ⟨c0, o2⟩ := o1.ifno
        rw [args1] at c0
        obtain ⟨kx, dx⟩ := x
        rw [cd q] at o2
        obtain ⟨c1, o3⟩ := o2.view
        cases dx with
        | lst ds =>
          obtain ⟨O, a, vs, own, rfl, ha, fr⟩ := k1.heldL c0
          obtain ⟨hf, hs⟩ := fr O fun _ z => z
          exact ⟨a, rfl, ⟨vs, .of ha⟩, Out.fin o3 (p1.frz fun a z => (own a z).1) (s1.frz own) ⟨itM_list hf ha hs, by rw [hs.length]; exact inv_list I ha⟩⟩
        | tup ds => exact absurd ⟨_, _, _, q, rfl⟩ c
        | _ => exact o3.elim
/-! ### loops -/
theorem evS_for {t : Tg} {ik : Ik} {src : List E} {b : List S} {ρ : Env} : evS P (.for_ t ik src b) ρ = evIS P ik src ρ >>= fun ds => forM' (fun d ρ => PV.ofO (bindT t d ρ) >>= fun ρ1 => evSs P b ρ1) ds ρ := by
  rw [evS]
  unfold evIS
  rw [M.assoc]
  congr; funext xs
  split <;> rfl
theorem ds_for {pt pi : Expr} {t : Tg} {ik : Ik} {src : List E} {pb : List Stmt} {b : List S} (hp : PassesOwn (model X.prog X.w) X.A X.env X.xe) (hc : X.calm = true) (hi : DIS X G P pt pi ik src) (hg : DG X G pt t) (hb : DSs X G P pb b)
    (hs : ∀ x, foldedSetIterable pi X.env x = pure x := by intro _; rfl) : DS X G P (.For pt pi pb [] pos) (.for_ t ik src b) := fun W w0 H0 wL HL tk => by
  -- the body is asked for any loop's start
  refine ⟨fun pins s σ H E I ⟨w, ρ, Os, st, a, o⟩ => ?_⟩
  rw [evS_for] at o
  have hx : (∀ (wL' : Wd) (HL' : Hp), PSs X pb (tSs G P W w0 H0 wL' HL' b)) := fun wL' HL' => hb W w0 H0 wL' HL' tk
  -- the loop's start is not known ahead: the body's reading holds it
  have hb' : PSs X pb (fun E σ H => ∃ wL' HL', tSs G P W w0 H0 wL' HL' b E σ H) := ⟨fun pins s σ H E I ⟨wL', HL', q⟩ => (hx wL' HL').run pins s σ H E I q⟩
  refine (ps_for hp hc (hi W tk) hg hb' hs).run pins s σ H E I ?_
  refine ⟨w, ρ, Os, st, a.g, o.run a fun ds s1 J w1 H1 p1 _ st1 ⟨wk, hz⟩ o1 => ?_⟩
  have a1 := a.po' p1 st1
  refine ⟨fun i m σ' H' => m = ds.length - i ∧ i ≤ ds.length ∧ ∃ w' ρ' Os' st', At G w0 H0 w1 H1 w' H' σ' ρ' Os' st' ∧ OutS G w0 H0 wL HL (forM' (fun d ρ => PV.ofO (bindT t d ρ) >>= fun ρ1 => evSs P b ρ1) (ds.drop i) ρ' st') W E,
    ⟨_, rfl, Nat.zero_le _, w1, ρ, Os, s1, ⟨a1.po, Mo.refl _ _, a1.g, a1.nw⟩, by simpa using o1⟩, ?_⟩
  rintro i m σ' H' ⟨rfl, hi', w', ρ', Os', st', a', o'⟩
  have out : ∀ {wq : Wd} {Hq : Hp} {σq : L2.St} {ρq : Env} {Osq : List (List Addr)} {stq : Sto}, At G w0 H0 w1 H1 wq Hq σq ρq Osq stq → At G w0 H0 wL HL wq Hq σq ρq Osq stq := fun b => ⟨b.po, a1.mo.trans b.mo, b.g, b.nw⟩
  by_cases hlt : i < ds.length
  · refine .inr ⟨wk.go w' H' i a'.mo hlt, fun σ2 H2 => i + 1 ≤ ds.length ∧ ∃ w' ρ' Os' st', At G w0 H0 w1 H1 w' H2 σ2 ρ' Os' st' ∧ OutS G w0 H0 wL HL (forM' (fun d ρ => PV.ofO (bindT t d ρ) >>= fun ρ1 => evSs P b ρ1) (ds.drop (i + 1)) ρ' st') W E, fun σ2 H2 q => ⟨_, by omega, rfl, q⟩, fun x H2 y => ?_⟩
    have hd : ds[i]? = some ds[i] := List.getElem?_eq_getElem hlt
    obtain ⟨w2, p2, st2, fx⟩ := wk.yld w' H' st' i ds[i] x H2 a'.mo a'.g.s hd y
    rw [List.drop_eq_getElem_cons hlt] at o'
    unfold forM' at o'
    rw [M.assoc] at o'
    obtain ⟨ρ1, e1, o2⟩ := o'.ofO
    have a2 := a'.po' p2 st2
    refine ⟨w2, ρ', Os', st', ds[i], ρ1, a2.g, fx, e1, fun σ1 Os1 g1 sm sub => ⟨w1, H1, w2, ρ1, Os1, st', ⟨a2.po, a2.mo, g1, fun c z => a2.nw c (sub c z)⟩, ?_⟩⟩
    rcases o2.bind with ⟨⟨f, ρ3⟩, st3, e3, o3⟩ | ⟨c, q, st3, e3, o3⟩
    · rw [e3]
      cases f with
      | nx => exact fun σ4 w4 H4 Os4 a4 => ⟨hlt, w4, ρ3, Os4, st3, a4, o3⟩
      | ct => exact fun σ4 w4 H4 Os4 a4 => ⟨hlt, w4, ρ3, Os4, st3, a4, o3⟩
      | bk => exact fun σ4 w4 H4 Os4 a4 => o3 σ4 w4 H4 Os4 (out a4)
      | rt d => exact fun v w4 H4 p4 m4 s4 f4 => o3 v w4 H4 p4 (a1.mo.trans m4) s4 f4
    · rw [e3]
      exact fun d σ4 w4 H4 p4 m4 s4 f4 => o3 d σ4 w4 H4 p4 (a1.mo.trans m4) s4 f4
  · have hi2 : i = ds.length := by omega
    subst hi2
    refine .inl ⟨wk.stop w' H' _ a'.mo (Nat.le_refl _), ?_⟩
    rw [List.drop_of_length_le (Nat.le_refl _)] at o'
    exact fin_nx o' (out a')
end
end PV

/-! part PV23 -/
/-! PV23: x += e, x.append(e), raise; defs. -/
namespace PV
open PySem L2 LamX NdefX

section
variable {X : Cx} {G : Gx} {P : Pr} {pos : Pos}
section
variable {W : WX} {w0 w wL : Wd} {H0 H HL : Hp} {σ : L2.St} {ρ : Env} {Os : List (List Addr)} {st : Sto} {E : Ends}
theorem OutS.slotD {i : Nat} {f : Nat × D → M (Fl × Env)} (h : OutS G w0 H0 wL HL ((PV.slotD ρ i >>= f) st) W E) : ∃ l d, ρ[i]? = some (some (l, d)) ∧ OutS G w0 H0 wL HL (f (l, d) st) W E := by
  unfold PV.slotD at h
  cases e : ρ[i]? with
  | none => rw [e] at h; exact h.elim
  | some z =>
    rw [e] at h
    cases z with
    | none => exact h.elim
    | some ld => exact ⟨ld.1, ld.2, rfl, h⟩
theorem At.set0 {i : Nat} {d : D} {v : V} (a : At G w0 H0 wL HL w H σ ρ Os st) (hv : FR G w H d v) : At G w0 H0 wL HL w H (σ.set i (some v)) (ρ.set i (some (0, d))) (Os.set i []) st :=
  ⟨a.po, a.mo, a.g.set0 i hv, fun b z => (mem_setO z).elim (fun z => nomatch z) (a.nw b)⟩
end
theorem ds_aug {i : Nat} {x : Str} {op : Operator} {p : Expr} {e : PV.E} {pos' : Pos} (hN : X.N.Nodup) (hi : X.N[i]? = some x) (hx : Loc X.env.scope x) (hf : X.fn x = true ∨ X.env.scope.names.lookup x = some .local) (ho : op = .Add ∨ op = .Sub) (h : DE X G P p e) :
    DS X G P (.AugAssign (.Name x pos') op p pos) (.aug i op e) := fun W w0 H0 wL HL tk => by
  have key : ∀ {f : Int → Int → Int}, PIp X op (ipI f) → (∀ a b, augM op (.int a) (.int b) = pure (.int (f a b))) → (∀ a b (st : Sto), (∀ i j, ¬ (a = .int i ∧ b = .int j)) → augM op a b st = .no) → PS X (.AugAssign (.Name x pos') op p pos) (tS G P W w0 H0 wL HL (.aug i op e)) := fun {f} hp h1 h2 =>
    ims (ps_aug hN hi hx (h W tk) hp hf) fun E σ H ⟨w, ρ, Os, st, a, o⟩ => by
      rw [evS] at o
      obtain ⟨l, d, e1, o1⟩ := o.slotD
      obtain ⟨v, O, s1, s2, r⟩ := a.g.sl.get e1
      refine ⟨v, s1, tE_S a o1 fun y st1 u w1 H1 a1 p1 k1 o2 => ?_⟩
      by_cases c : ∃ i j, d = .int i ∧ y.2 = .int j
      · obtain ⟨m, n, rfl, ey⟩ := c
        have rv := r.ncf rfl
        cases rv
        obtain ⟨ky, dy⟩ := y
        dsimp only at ey o2
        subst ey
        obtain rfl := k1.int
        refine ⟨m, n, rfl, rfl, ?_⟩
        rw [h1] at o2
        exact fin_nx o2 (a1.set0 (FR.int _))
      · have : augM op d y.2 st1 = .no := h2 _ _ _ fun i j z => c ⟨i, j, z⟩
        exfalso
        have o3 : OutS G w0 H0 wL HL ((augM op d y.2 >>= fun z => pure (.nx, ρ.set i (some (0, z)))) st1) W E := o2
        rcases o3.bind with ⟨z, st2, e3, _⟩ | ⟨q, z, st2, e3, _⟩
        · rw [this] at e3; cases e3
        · rw [this] at e3; cases e3
  rcases ho with rfl | rfl
  · exact key ip_add (fun a b => rfl) fun a b st h => by cases a <;> cases b <;> first | rfl | exact absurd ⟨rfl, rfl⟩ (h _ _)
  · exact key ip_sub (fun a b => rfl) fun a b st h => by cases a <;> cases b <;> first | rfl | exact absurd ⟨rfl, rfl⟩ (h _ _)
/-- name.append(e), the name's list one's own -/
theorem ds_app {i : Nat} {x : Str} {p : Expr} {e : PV.E} {npos apos cpos : Pos} (hK : X.K = G.K) (hN : X.N[i]? = some x) (hv : Vis X.env.scope x) (h : DE X G P p e) (hd : (x == ("__debug__" : Str)) = false := by decide) (hcd : (x == ("__classdict__" : Str)) = false := by decide)
    (hs0 : starEach [p] X.env = (false, eval p X.env) :: starEach [] X.env := by rfl)
    (hbase : attributeBase (.Name x npos) "append" X.env (eval (.Name x npos) X.env) = eval (.Name x npos) X.env := by rfl)
    (hfew : ((backTo cpos (starEach [p] X.env)).all (fun x => !x.1) && (backToKw cpos (keywordEach [] X.env)).all (fun x => x.1.isSome)
      && decide (([p] : List Expr).length + ([] : List Keyword).length + (if ([] : List Keyword).isEmpty then 0 else 1) < 30)) = true := by rfl)
    (hline : (apos.endLine == cpos.line) = true := by rfl) (hs : starEach [p] X.env = (false, eval p X.env) :: starEach [] X.env := by rfl) (hplain : (backTo cpos (starEach [] X.env)).any (·.1) = false := by rfl)
    (hsw : swapsWith (.Call (.Attribute (.Name x npos) "append" apos) [p] [] cpos) none pos.line X.env = pure false := by rfl) :
    DS X G P (.Expr (.Call (.Attribute (.Name x npos) "append" apos) [p] [] cpos) pos) (.app i e) := fun W w0 H0 wL HL tk =>
  ims (ps_expr (pe_bm PySem.F.plainAttrs_list PySem.F.slot_list_append PySem.F.type_list_append mt_append (pe_var hN hv hd hcd) (pa_cons (h W tk) pa_nil hs0) hbase hfew hline hs hplain) hsw) fun E σ H ⟨w, ρ, Os, st, a, o⟩ => by
    rw [evS] at o
    obtain ⟨l0, d0, e1, o1⟩ := o.slotD
    obtain ⟨⟨l, ds⟩, e2, o2⟩ := o1.ofO
    obtain ⟨v, O, s1, s2, r⟩ := a.g.sl.get e1
    obtain ⟨rfl, rfl⟩ : l0 = l + 1 ∧ d0 = .lst ds := by
      cases l0 with
      | zero => cases e2
      | succ l0 => cases d0 with
        | lst ds0 => cases e2; exact ⟨rfl, rfl⟩
        | _ => cases e2
    rcases r.lst_inv with ⟨_, z⟩ | ⟨l', b, O', vs, el, rfl, eO, hb, nF, nR, hv⟩
    · cases z
    obtain rfl : l = l' := by omega
    have bO : b ∈ Os.flatten := mem_flat s2 b (by rw [eO]; exact List.mem_cons_self)
    have nO := a.g.ap b bO
    refine ⟨.ref b, s1, .inl ⟨rfl, vs, .of hb⟩, tE_S a o2 fun y st1 u w1 H1 a1 p1 k1 o3 => ?_⟩
    have hb1 : H1 b = some (.lst vs) := p1.keep b _ hb nR nO fun ps e => by cases e
    unfold appM at o3
    rw [M.assoc] at o3
    rcases o3.bind with ⟨d, st2, e3, o4⟩ | ⟨c, q, st2, e3, _⟩
    rotate_left
    · unfold putL at e3
      split at e3 <;> cases e3
    obtain ⟨hp, q1, q2⟩ := putL_ok e3
    subst q1 q2
    obtain ⟨hz, o5⟩ : szOk (ds.length + 1) = true ∧ OutS G w0 H0 wL HL ((pure (.nx, ρ.set i (some (l + 1, .lst (ds ++ [y.2])))) : M (Fl × Env)) st2) W E := by
      cases c : szOk (ds.length + 1) with
      | true => rw [c] at o4; exact ⟨rfl, o4⟩
      | false => rw [c] at o4; exact o4.elim
    obtain ⟨nr, O2, F, own, hv2, nd2, nw2⟩ := k1.put hp
    have a2 := a1.frz own a.po.th a.osT
    have pF : Po w H (w1.frz F) H1 := p1.frz fun c z => (own c z).1
    have nF2 : ¬ (w1.frz F).F b := fun z => (pF.fn b z).elim nF fun e => e.no hb (fun _ z => by cases z) fun _ z => by cases z
    have nR2 := pF.out (by rw [hb]; simp) nR
    have nO2 := pF.outO (by rw [hb]; simp) nO
    have hvF : VRs G (w1.frz F) H1 l O' ds vs := hv.po a.g.s.wf pF fun c z => a.g.ap c (mem_flat s2 c (by rw [eO]; exact List.mem_cons_of_mem _ z))
    have len := hv.length
    have hlt : vs.length < sizeLine := by
      have z1 : ds.length + 1 ≤ 16777216 := of_decide_eq_true hz
      rw [sizeLine_eq]
      omega
    refine ⟨b, vs, u, rfl, rfl, hb1, hlt, ?_⟩
    have mv : Mv (w1.frz F) H1 (upd H1 b (.lst (vs ++ [u]))) b := Mv.of nF2 nR2 nO2
    have ndO : (b :: O').Nodup := by
      have := a.g.nd
      rw [← eO]
      exact List.Nodup.sublist (List.sublist_flatten_of_mem (List.mem_of_getElem? s2)) this
    have bO' : b ∉ O' := (List.nodup_cons.mp ndO).1
    have o2n : ∀ c ∈ O2, H c = none := fun c z => (nw2 c z).1
    have bO2 : b ∉ O2 := fun z => by have q := o2n b z; rw [hb] at q; cases q
    have thO : ∀ c ∈ Os.flatten, c ∉ O2 := fun c z z' => a.osT c z (o2n c z')
    -- the slots without the list's own
    have gw : Gd G (w1.frz F) H1 (σ.set i none) (ρ.set i none) (Os.set i []) st2 := a2.g.wipe1 i
    have bOs : b ∉ (Os.set i []).flatten := fun z => by
      have nd := a.g.nd
      obtain ⟨P1, P2, e⟩ : ∃ P1 P2, Os = P1 ++ O :: P2 ∧ Os.set i [] = P1 ++ [] :: P2 := by
        have hi' : i < Os.length := (List.getElem?_eq_some_iff.mp s2).1
        refine ⟨Os.take i, Os.drop (i + 1), ?_, ?_⟩
        · have e := (List.getElem?_eq_some_iff.mp s2).2
          rw [← e, List.getElem_cons_drop, List.take_append_drop]
        · rw [List.set_eq_take_append_cons_drop, if_pos hi']
      rw [e.2, List.flatten_append, List.flatten_cons] at z
      rw [e.1, List.flatten_append, List.flatten_cons, List.nodup_append] at nd
      have bo : b ∈ O := by rw [eO]; exact List.mem_cons_self
      rcases List.mem_append.mp z with z | z
      · exact nd.2.2 b z b (List.mem_append_left _ bo) rfl
      · simp only [List.nil_append] at z
        exact (List.nodup_append.mp nd.2.1).2.2 b bo b z rfl
    have sm2 := a2.g.s.mv hb1 mv
    have gm : Gd G (w1.frz F) (upd H1 b (.lst (vs ++ [u]))) (σ.set i none) (ρ.set i none) (Os.set i []) st2 := ⟨sm2, gw.sl.mv mv bOs, gw.nd, gw.ap⟩
    have newV : VR G (w1.frz F) (upd H1 b (.lst (vs ++ [u]))) (l + 1) (b :: (O' ++ O2)) (.lst (ds ++ [y.2])) (.ref b) :=
      .lst upd_same nF2 nR2 (VRs.mv mv (VRs.snoc nr hv2 hvF) fun z => (List.mem_append.mp z).elim bO' bO2)
    have sub' : ∀ c ∈ b :: O', c ∈ Os.flatten := fun c z => mem_flat s2 c (by rw [eO]; exact z)
    have notin : ∀ c ∈ b :: O', c ∉ (Os.set i []).flatten := fun c z z' => by
      have nd := a.g.nd
      obtain ⟨P1, P2, e⟩ : ∃ P1 P2, Os = P1 ++ O :: P2 ∧ Os.set i [] = P1 ++ [] :: P2 := by
        have hi' : i < Os.length := (List.getElem?_eq_some_iff.mp s2).1
        refine ⟨Os.take i, Os.drop (i + 1), ?_, ?_⟩
        · have e := (List.getElem?_eq_some_iff.mp s2).2
          rw [← e, List.getElem_cons_drop, List.take_append_drop]
        · rw [List.set_eq_take_append_cons_drop, if_pos hi']
      rw [e.2, List.flatten_append, List.flatten_cons] at z'
      rw [e.1, List.flatten_append, List.flatten_cons, List.nodup_append] at nd
      have bo : c ∈ O := by rw [eO]; exact z
      rcases List.mem_append.mp z' with z | z
      · exact nd.2.2 c z c (List.mem_append_left _ bo) rfl
      · simp only [List.nil_append] at z
        exact (List.nodup_append.mp nd.2.1).2.2 c bo c z rfl
    have g3 := gm.set (v := .ref b) (l := l + 1) (d := .lst (ds ++ [y.2])) (O := b :: (O' ++ O2)) i newV ?_ ?_ ?_
    · have eσ : (σ.set i none).set i (some (.ref b)) = σ := by
        rw [List.set_set]
        refine List.ext_getElem? fun j => ?_
        have hi' : i < σ.length := (List.getElem?_eq_some_iff.mp s1).1
        by_cases c : i = j
        · subst c
          rw [List.getElem?_set_self hi', s1]
        · rw [List.getElem?_set_ne c]
      rw [eσ, List.set_set, List.set_set] at g3
      refine fin_nx o5 ⟨a2.po.mv (a.nw b bO) hb1, ?_, g3, fun c z => ?_⟩
      · exact a2.mo.mv a2.g.s nF2 nR2 (a2.g.ap b bO)
      · rcases mem_setO z with z | z
        · rcases List.mem_cons.mp z with z | z
          · rw [z]; exact a.nw b bO
          · rcases List.mem_append.mp z with z | z
            · exact a.nw c (sub' c (List.mem_cons_of_mem _ z))
            · exact a.po.th c (o2n c z)
        · exact a.nw c z
    · rw [List.nodup_cons]
      refine ⟨fun z => (List.mem_append.mp z).elim bO' bO2, List.nodup_append.mpr ⟨(List.nodup_cons.mp ndO).2, nd2, fun c z c' z' e => ?_⟩⟩
      subst e
      exact thO c (sub' c (List.mem_cons_of_mem _ z)) z'
    · intro c z z'
      rcases List.mem_cons.mp z with q | q
      · exact notin c (by rw [q]; exact List.mem_cons_self) z'
      · rcases List.mem_append.mp q with q | q
        · exact notin c (List.mem_cons_of_mem _ q) z'
        · rcases mem_setO z' with z' | z'
          · cases z'
          · exact thO c z' q
    · intro c z
      rcases List.mem_cons.mp z with q | q
      · rw [q]; exact nO2
      · rcases List.mem_append.mp q with q | q
        · exact pF.outO (hv.there c q).1 (a.g.ap c (sub' c (List.mem_cons_of_mem _ q)))
        · exact (nw2 c q).2
end
end PV

/-! part PV24 -/
/-! PV24: raise, fields stored, defs by their bodies. -/
namespace PV
open PySem L2 LamX NdefX

/-- an own exception class without an __init__ of its own -/
structure Xc (X : Cx) (C : Addr) (x : Str) : Prop where
  go : ∃ bmB B newId initId, ExcBaseFacts B newId initId bmB ∧ PySem.W.excIn X.K C bmB newId = true ∧ X.mg x = some (.ref C) ∧ PySem.W.keepIn X.K (.ref C) = true ∧ Raises X (.ref C)
section
variable {X : Cx} {G : Gx} {P : Pr} {pos : Pos}
theorem ds_raise {c : Nat} {x : Str} {pe : Expr} {pes : List Expr} {es : List PV.E} {p pos2 : Pos} (hc : X.calm = true) (hx : Xc X (G.ex c) x) (hg : Gl X x) (h : DA X G P (pe :: pes) es) (hn : es.length ≤ 1000) (hdb : (x == ("__debug__" : Str)) = false := by decide)
    (h0 : P.nm = 0 := by rfl) (he : starEach (pe :: pes) X.env = (false, eval pe X.env) :: starEach pes X.env := by rfl) (hpl : (backTo pos (starEach pes X.env)).any (·.1) = false := by rfl) :
    DS X G P (.Raise (some (.Call (.Name x p) (pe :: pes) [] pos)) none pos2) (.raise c es) := fun W w0 H0 wL HL tk => by
  obtain ⟨bmB, B, newId, initId, F, q, gC, kC, r⟩ := hx.go
  refine ims (L2.ps_raise hc (TkM.z h0 tk) (pmk_ownA F q gC kC r hg (h W tk) hdb he hpl)) fun E σ H ⟨w, ρ, Os, st, a, o⟩ => ?_
  rw [evS] at o
  refine tA_S a o fun xs st1 vs w1 H1 e a1 p1 k1 o1 => ⟨by rw [← k1.length, evEs_len e]; exact small hn, ?_⟩
  exact o1 none σ w1 H1 a1.po a1.mo a1.g.s (.inl ⟨rfl, rfl⟩)
end
/-! a field is stored: the object of the store at a changes -/
section
variable {G : Gx} {w : Wd} {H : Hp} {a : Addr} {o : HO}
theorem neF {b : Addr} (hF : ¬ w.F a) (h : w.F b) : b ≠ a := fun z => hF (z ▸ h)
theorem neR {b : Addr} (hρ : a ∈ w.ρ) (h : b ∉ w.ρ) : b ≠ a := fun z => h (z ▸ hρ)
theorem FT.mr {G : Gx} {b : Addr} {vs : List V} (hF : ¬ w.F a) (h : FT G w.F H b vs) : FT G w.F (upd H a o) b vs := h.elim (fun h => .inl ⟨h.1, by have q := h.2; unfold Rt at q ⊢; rw [upd_ne (neF hF h.1)]; exact q⟩) .inr
mutual
theorem FR.mr (hF : ¬ w.F a) : ∀ {d : D} {v : V}, FR G w H d v → FR G w (upd H a o) d v
  | _, _, .non => .non
  | _, _, .bl b => .bl b
  | _, _, .int i => .int i
  | _, _, .str x => .str x
  | _, _, .tup h hs => .tup (h.mr hF) (FRs.mr hF hs)
  | _, _, .lst h hs => .lst ⟨h.1, by rw [upd_ne (neF hF h.1)]; exact h.2⟩ (FRs.mr hF hs)
  | _, _, .ins hf h hc hl hs => .ins hf (by rw [upd_ne (neF hF hf)]; exact h) hc hl (FRs.mr hF hs)
  | _, _, .dic hf h hs => .dic hf (by unfold Rd at h ⊢; rw [upd_ne (neF hF hf)]; exact h) (FRs.mr hF hs)
  | _, _, .dit hf h hs => .dit hf (by unfold Rd at h ⊢; rw [upd_ne (neF hF hf)]; exact h) (FRs.mr hF hs)
  | _, _, .ref h => .ref h
  | _, _, .tx hf hd h hs => .tx hf hd (by rw [upd_ne (neF hF hf)]; exact h) (FRs.mr hF hs)
theorem FRs.mr (hF : ¬ w.F a) : ∀ {ds : List D} {vs : List V}, FRs G w H ds vs → FRs G w (upd H a o) ds vs
  | _, _, .nil => .nil
  | _, _, .cons n h hs => .cons n (FR.mr hF h) (FRs.mr hF hs)
end
mutual
theorem VR.mr (hF : ¬ w.F a) (hρ : a ∈ w.ρ) : ∀ {l : Nat} {O : List Addr} {d : D} {v : V}, VR G w H l O d v → VR G w (upd H a o) l O d v
  | _, _, _, _, .zero h => .zero (h.mr hF)
  | _, _, _, _, .nc hc h => .nc hc (h.mr hF)
  | _, _, _, _, .lst h hf hn hs => .lst (by rw [upd_ne (neR hρ hn)]; exact h) hf hn (VRs.mr hF hρ hs)
  | _, _, _, _, .dic h hf hn hs => .dic (by rw [upd_ne (neR hρ hn)]; exact h) hf hn (VRs.mr hF hρ hs)
  | _, _, _, _, .dit h hf hn hs => .dit (by rw [upd_ne (neR hρ hn)]; exact h) hf hn (VRs.mr hF hρ hs)
theorem VRs.mr (hF : ¬ w.F a) (hρ : a ∈ w.ρ) : ∀ {l : Nat} {O : List Addr} {ds : List D} {vs : List V}, VRs G w H l O ds vs → VRs G w (upd H a o) l O ds vs
  | _, _, _, _, .nil => .nil
  | _, _, _, _, .cons n h hs => .cons n (VR.mr hF hρ h) (VRs.mr hF hρ hs)
end
theorem FDs.there {G : Gx} {w : Wd} {H : Hp} : ∀ {xs : List (Nat × D)} {vs : List V} {O : List Addr}, FDs G w H xs vs O → ∀ a ∈ O, H a ≠ none ∧ ¬ w.F a ∧ a ∉ w.ρ
  | _, _, _, .nil => by simp
  | _, _, _, .cons _ h hs => fun b hb => (List.mem_append.mp hb).elim (h.there b) (FDs.there hs b)
theorem FDs.mr (hF : ¬ w.F a) (hρ : a ∈ w.ρ) : ∀ {xs : List (Nat × D)} {vs : List V} {O : List Addr}, FDs G w H xs vs O → FDs G w (upd H a o) xs vs O
  | _, _, _, .nil => .nil
  | _, _, _, .cons n h hs => .cons n (h.mr hF hρ) (FDs.mr hF hρ hs)
theorem NR.mr {nd : Nd} {b : Addr} {O : List Addr} (hF : ¬ w.F a) (hρ : a ∈ w.ρ) (hb : b ≠ a) (h : NR G w H nd b O) : NR G w (upd H a o) nd b O := by
  cases h with
  | nl h hs => exact .nl (by rw [upd_ne hb]; exact h) (hs.mr hF)
  | ni h hc hl hs => exact .ni (by rw [upd_ne hb]; exact h) hc hl (hs.mr hF hρ)
  | nk t h hc hl hs hz => exact .nk t (by rw [upd_ne hb]; exact h) hc hl (by rw [unf_upd]; exact hs.mr hF hρ) fun c hc' => let ⟨o, e, n⟩ := hz c hc'; ⟨o, by rw [upd_ne (fun z => by subst z; exact (FDs.there hs c hc').2.2 hρ)]; exact e, n⟩
  | nd t h hs => exact .nd t (by rw [upd_ne hb]; exact h) (hs.mr hF)
theorem NRs.mr (hF : ¬ w.F a) (hρ : a ∈ w.ρ) : ∀ {st : Sto} {as O : List Addr}, a ∉ as → NRs G w H st as O → NRs G w (upd H a o) st as O
  | _, _, _, _, .nil => .nil
  | _, _, _, hn, .cons h r => .cons (h.mr hF hρ fun z => hn (by rw [z]; exact List.mem_cons_self)) (NRs.mr hF hρ (fun z => hn (List.mem_cons_of_mem _ z)) r)
/-- .. at the n-th -/
theorem NRs.setN {nd : Nd} (hF : ¬ w.F a) (hρ : a ∈ w.ρ) : ∀ {st : Sto} {as O : List Addr} {n : Nat}, NRs G w H st as O → as.Nodup → as[n]? = some a → (∀ O', (∃ nd0, st[n]? = some nd0 ∧ NR G w H nd0 a O') → NR G w (upd H a o) nd a O') → NRs G w (upd H a o) (st.set n nd) as O
  | _, _, _, _, .nil, _, e, _ => by simp at e
  | _, _, _, 0, .cons h r, hn, e, k => by
    simp only [List.getElem?_cons_zero, Option.some.injEq] at e
    subst e
    exact .cons (k _ ⟨_, rfl, h⟩) (NRs.mr hF hρ (List.nodup_cons.mp hn).1 r)
  | _, _, _, n + 1, .cons h r, hn, e, k => by
    simp only [List.getElem?_cons_succ] at e
    exact .cons (h.mr hF hρ fun z => (List.nodup_cons.mp hn).1 (by rw [z]; exact List.mem_of_getElem? e)) (NRs.setN hF hρ r (List.nodup_cons.mp hn).2 e k)
theorem SL.mr (hF : ¬ w.F a) (hρ : a ∈ w.ρ) : ∀ {σ : L2.St} {ρ : Env} {Os : List (List Addr)}, SL G w H σ ρ Os → SL G w (upd H a o) σ ρ Os
  | _, _, _, .nil => .nil
  | _, _, _, .no h => .no (SL.mr hF hρ h)
  | _, _, _, .so hv h => .so (hv.mr hF hρ) (SL.mr hF hρ h)
theorem tabsN_ins {T : List NTab} {C dx : Addr} {fs fs' : List (Str × V)} (ha : H a = some (.ins C dx fs)) (t : TabsN T H) : TabsN T (upd H a (.ins C dx fs')) := fun p hp => by
  obtain ⟨ps, h1, h2, h3⟩ := t p hp
  refine ⟨ps, by rw [upd_ne (fun z => by rw [z, ha] at h1; cases h1)]; exact h1, h2, fun pos cv hc => ?_⟩
  obtain ⟨c, e1, e2⟩ := h3 pos cv hc
  exact ⟨c, e1, by rw [upd_ne (fun z => by rw [z, ha] at e2; unfold CodeO at e2; cases e2)]; exact e2⟩
theorem some_ins {C dx b : Addr} {fs : List (Str × V)} (h : ∃ o, H b = some o ∧ ∀ ps, o ≠ .tbl ps) : ∃ o, upd H a (.ins C dx fs) b = some o ∧ ∀ ps, o ≠ .tbl ps := by
  by_cases c : b = a
  · subst c
    exact ⟨_, upd_same, fun ps e => by cases e⟩
  · rw [upd_ne c]; exact h
end
/-- the fields' names and values -/
theorem putF_zip {f : Str} {v : V} : ∀ {fs : List Str} {vs : List V} {k : Nat}, fs.Nodup → fs[k]? = some f → k ≤ vs.length → vs.length ≤ fs.length →
    putF f v ((fs.take vs.length).zip vs) = (fs.take (if k < vs.length then vs.set k v else vs ++ [v]).length).zip (if k < vs.length then vs.set k v else vs ++ [v])
  | [], _, _, _, e, _, _ => by simp at e
  | g :: fs, [], 0, hn, e, _, _ => by
    simp only [List.getElem?_cons_zero, Option.some.injEq] at e
    subst e
    rfl
  | g :: fs, [], k + 1, _, _, hk, _ => by simp at hk
  | g :: fs, u :: vs, 0, hn, e, _, _ => by
    simp only [List.getElem?_cons_zero, Option.some.injEq] at e
    subst e
    simp [putF]
  | g :: fs, u :: vs, k + 1, hn, e, hk, hl => by
    simp only [List.getElem?_cons_succ] at e
    have ne : g ≠ f := fun z => (List.nodup_cons.mp hn).1 (by rw [z]; exact List.mem_of_getElem? e)
    have ih := putF_zip (v := v) (vs := vs) (List.nodup_cons.mp hn).2 e (by simpa using hk) (by simpa using hl)
    simp only [List.length_cons, List.take_succ_cons, List.zip_cons_cons, putF, if_neg ne]
    rw [ih]
    by_cases c : k < vs.length
    · simp [c]
    · simp [c]
theorem FDs.put {G : Gx} {w : Wd} {H : Hp} {d : D} {v : V} (n : isR d = false) (h : FR G w H d v) : ∀ {xs : List (Nat × D)} {vs : List V} {O : List Addr} {k : Nat} {ys : List (Nat × D)}, FDs G w H xs vs O → putFd k d xs = some ys → FDs G w H ys (if k < vs.length then vs.set k v else vs ++ [v]) O ∧ k ≤ vs.length
  | [], _, _, k, ys, .nil, e => by
    unfold putFd at e
    by_cases c : k = 0
    · subst c
      simp only [if_true, Option.some.injEq] at e
      subst e
      exact ⟨by simpa using FDs.cons n (.zero h) .nil, Nat.le_refl _⟩
    · rw [if_neg c] at e; cases e
  | (l, d0) :: xs, _, _, 0, ys, @FDs.cons _ _ _ _ _ _ O1 _ _ _ n1 h1 hs, e => by
    unfold putFd at e
    dsimp only at e
    by_cases c : l = 0 ∨ isC d0 = false
    · rw [if_pos c] at e
      cases e
      have eO : O1 = [] := by
        cases h1 with
        | zero _ => rfl
        | nc _ _ => rfl
        | lst _ _ _ _ => rcases c with c | c <;> cases c
        | dic _ _ _ _ => rcases c with c | c <;> cases c
        | dit _ _ _ _ => rcases c with c | c <;> cases c
      subst eO
      exact ⟨by simpa using FDs.cons n (.zero h) hs, Nat.zero_le _⟩
    · rw [if_neg c] at e; cases e
  | (l, d0) :: xs, _, _, k + 1, ys, @FDs.cons _ _ _ _ _ _ O1 _ _ vs n1 h1 hs, e => by
    unfold putFd at e
    dsimp only at e
    cases e1 : putFd k d xs with
    | none => rw [e1] at e; cases e
    | some zs =>
      rw [e1] at e
      cases e
      obtain ⟨ih, hk⟩ := FDs.put n h hs e1
      refine ⟨?_, by simpa using hk⟩
      by_cases c : k < vs.length
      · rw [if_pos c] at ih
        simpa [c] using FDs.cons n1 h1 ih
      · rw [if_neg c] at ih
        simpa [c] using FDs.cons n1 h1 ih
theorem putFd_len {k : Nat} {d : D} : ∀ {xs ys : List (Nat × D)}, putFd k d xs = some ys → ys.length = if k < xs.length then xs.length else xs.length + 1 := by
  intro xs
  induction xs generalizing k with
  | nil =>
    intro ys e
    unfold putFd at e
    by_cases c : k = 0
    · rw [if_pos c] at e; cases e; simp
    · rw [if_neg c] at e; cases e
  | cons x xs ih =>
    intro ys e
    unfold putFd at e
    cases k with
    | zero =>
      dsimp only at e
      split at e
      · cases e; simp
      · cases e
    | succ k =>
      dsimp only at e
      cases e1 : putFd k d xs with
      | none => rw [e1] at e; cases e
      | some zs =>
        rw [e1] at e
        cases e
        have := ih e1
        simp only [List.length_cons, Nat.add_lt_add_iff_right, this]
        split <;> rfl
section
variable {X : Cx} {G : Gx} {P : Pr} {pos : Pos}
/-- o.f = e, the value frozen -/
theorem ds_setf {c k : Nat} {C : Addr} {fs : List Str} {f : Str} {po pe : Expr} {o e : PV.E} {pos' : Pos} (hK : X.K = G.K) (hcl : G.cl c = some (C, fs)) (hnd : fs.Nodup) (hf : fs[k]? = some f) (hfew : fs.length < 1000) (hC : Cls X.K C) (hno : NoAttr X.K C f) (ho : DE X G P po o) (he : DE X G P pe e)
    (hs : swapsWith pe (some (.Attribute po f pos')) pos.line X.env = pure false := by rfl) : DS X G P (.Assign [.Attribute po f pos'] pe pos) (.setf c o k e) := fun W w0 H0 wL HL tk => ims (ps_fld (ho W tk) (he W tk) hs) fun E σ H ⟨w, ρ, Os, st, a, ot⟩ => by
  rw [evS] at ot
  refine tE_S a ot fun x st1 v w1 H1 a1 p1 k1 o1 => ?_
  refine tE_S a1 o1 fun y st2 u w2 H2 a2 p2 k2 o2 => ?_
  have kx := k1.po a1.g.s.wf p2 a1.g.ap
  rcases o2.bind with ⟨d, st3, e3, o3⟩ | ⟨_, _, _, e3, _⟩
  rotate_left
  · unfold PV.put at e3; split at e3 <;> cases e3
  obtain ⟨hput, rfl, rfl⟩ : putB x = true ∧ d = x.2 ∧ st3 = st2 := by
    unfold PV.put at e3
    cases q : putB x with
    | true => rw [q] at e3; cases e3; exact ⟨rfl, rfl, rfl⟩
    | false => rw [q] at e3; cases e3
  unfold putB at hput
  simp only [Bool.and_eq_true, Bool.not_eq_true'] at hput
  obtain ⟨c2, o4⟩ := o3.keep1
  obtain ⟨O, own, fx⟩ := kx.sees hput.1
  obtain ⟨O', own', fy⟩ := (k2.base p1).sees c2
  have own2 := own.app own'
  have a3 := a2.frz own2 a.po.th a.osT
  have fx := fx (O ++ O') fun _ z => List.mem_append_left _ z
  have fy := fy (O ++ O') fun _ z => List.mem_append_right _ z
  obtain ⟨ky, dy⟩ := y
  dsimp only at fy o4
  cases dy with
  | ref n =>
    cases fy with
    | @ref _ b eb =>
      unfold setfM at o4
      rcases o4.bind with ⟨z, st4, e4, o5⟩ | ⟨_, _, _, e4, _⟩
      rotate_left
      · dsimp only at e4
        split at e4
        · split at e4
          · split at e4 <;> cases e4
          · cases e4
        · cases e4
      dsimp only at e4
      cases en : st3[n]? with
      | none => rw [en] at e4; cases e4
      | some nd =>
        rw [en] at e4
        cases nd with
        | nl _ => cases e4
        | nk _ _ => cases e4
        | nd _ => cases e4
        | ni c' xs =>
          dsimp only at e4
          by_cases ec : c' = c
          · rw [if_pos ec] at e4
            subst ec
            cases ef : putFd k x.2 xs with
            | none => rw [ef] at e4; cases e4
            | some ys =>
              rw [ef] at e4
              cases e4
              obtain ⟨On, hn⟩ := a3.g.s.nr.get en eb
              have hρ : b ∈ (w2.frz (O ++ O')).ρ := List.mem_of_getElem? eb
              have hF : ¬ (w2.frz (O ++ O')).F b := fun z => (a3.g.s.wf.fr b z).1 hρ
              cases hn with
              | @ni _ C' dx _ fs' _ vs _ h1 h2 h3 h4 =>
                rw [hcl] at h2
                obtain ⟨rfl, rfl⟩ := Prod.mk.inj (Option.some.inj h2)
                have hl := h4.len
                obtain ⟨h5, hk⟩ := FDs.put hput.2 fx h4 ef
                have hkl : k < fs.length := (List.getElem?_eq_some_iff.mp hf).1
                have hvl : vs.length ≤ fs.length := by rw [← hl]; exact h3
                refine ⟨b, C, dx, _, rfl, h1, hC, hno, ?_, ?_⟩
                · rw [List.length_zip, List.length_take]
                  have : min (min xs.length fs.length) vs.length ≤ fs.length := by omega
                  omega
                · have e1 : (fs.take xs.length).zip vs = (fs.take vs.length).zip vs := by rw [hl]
                  have h1' := h1
                  rw [e1] at h1' ⊢
                  rw [putF_zip hnd hf hk hvl]
                  generalize hvs : (if k < vs.length then vs.set k v else vs ++ [v]) = vs' at h5
                  have hyl := h5.len
                  have hyf : ys.length ≤ fs.length := by
                    rw [putFd_len ef]
                    split <;> omega
                  have nr : NRs G (w2.frz (O ++ O')) (upd H2 b (.ins C dx ((fs.take vs'.length).zip vs'))) (st3.set n (.ni c' ys)) (w2.frz (O ++ O')).ρ (w2.frz (O ++ O')).O := by
                    refine NRs.setN hF hρ a3.g.s.nr a3.g.s.wf.nd eb fun Oq ⟨nd0, q1, q2⟩ => ?_
                    rw [en] at q1
                    cases q1
                    cases q2 with
                    | @ni _ C2 dx2 _ fs2 _ vs2 _ g1 g2 g3 g4 =>
                      rw [hcl] at g2
                      obtain ⟨rfl, rfl⟩ := Prod.mk.inj (Option.some.inj g2)
                      obtain ⟨g5, gk⟩ := FDs.put hput.2 fx g4 ef
                      have gl := g4.len
                      have ev : vs2 = vs := by
                        rw [h1] at g1
                        have e2 : (fs.take xs.length).zip vs = (fs.take xs.length).zip vs2 := by
                          injection (Option.some.inj g1) with _ _ q
                        have tl : (fs.take xs.length).length = xs.length := by rw [List.length_take]; omega
                        have m := congrArg (List.map Prod.snd) e2
                        rw [List.map_snd_zip (by omega), List.map_snd_zip (by omega)] at m
                        exact m.symm
                      subst ev
                      rw [hvs] at g5
                      refine .ni (by rw [hyl]; exact upd_same) hcl hyf (g5.mr hF hρ)
                  have wf' : Wf G (w2.frz (O ++ O')) (upd H2 b (.ins C dx ((fs.take vs'.length).zip vs'))) :=
                    ⟨fun q z => some_ins (a3.g.s.wf.fa q z), a3.g.s.wf.fr, a3.g.s.wf.nd, fun q z => ⟨some_ins (a3.g.s.wf.ra q z).1, (a3.g.s.wf.ra q z).2⟩, fun q z => some_ins (a3.g.s.wf.oa q z), tabsN_ins h1' a3.g.s.wf.tb⟩
                  have po' : Po w0 H0 (w2.frz (O ++ O')) (upd H2 b (.ins C dx ((fs.take vs'.length).zip vs'))) := by
                    have pp := a3.po
                    refine ⟨pp.fm, pp.fn, pp.sp, pp.on, fun q t q1 qf q2 q3 q4 => ?_, fun q t q1 qf q2 q3 q4 => ?_, fun q z => ?_, pp.ktR a3.g.s hρ (a3.g.s.unl en eb fun _ _ e => by cases e), fun q n => pp.nu q (NT.updP (fun _ z => by cases z) (fun _ z => by cases z) n)⟩
                    · rw [upd_ne (fun z => ?_)]
                      · exact pp.kn q t q1 qf q2 q3 q4
                      · subst z
                        obtain ⟨more, em, nm⟩ := pp.sp
                        rw [em] at hρ
                        rcases List.mem_append.mp hρ with z | z
                        · exact q2 z
                        · rw [nm q z] at q1; cases q1
                    · rw [upd_ne (fun z => ?_)]
                      · exact pp.kf q t q1 qf q2 q3 q4
                      · subst z
                        obtain ⟨more, em, nm⟩ := pp.sp
                        rw [em] at hρ
                        rcases List.mem_append.mp hρ with z | z
                        · exact q2 z
                        · rw [nm q z] at q1; cases q1
                    · by_cases cq : q = b
                      · subst cq; rw [upd_same] at z; cases z
                      · rw [upd_ne cq] at z; exact pp.th q z
                  have mo' : Mo wL HL (w2.frz (O ++ O')) (upd H2 b (.ins C dx ((fs.take vs'.length).zip vs'))) :=
                    a3.mo.mr a3.g.s hF hρ (a3.g.s.unl en eb fun _ _ e => by cases e)
                  exact fin_nx o5 ⟨po', mo', ⟨⟨wf', nr, a3.g.s.nd, a3.g.s.lkset en fun _ _ e => by cases e⟩, a3.g.sl.mr hF hρ, a3.g.nd, a3.g.ap⟩, a3.nw⟩
          · rw [if_neg ec] at e4; cases e4
  | _ =>
    unfold setfM at o4
    rcases o4.bind with ⟨z, st4, e4, o5⟩ | ⟨_, _, _, e4, _⟩ <;> cases e4
end
end PV

/-! part PV25 -/
/-! PV25: defs by their bodies; what is told of a lambda. -/
namespace PV
open PySem PySem.Spec PyProof.Rows L2 LamX NdefX

section
variable {G : Gx} {w : Wd} {H : Hp}
theorem SL.nones : ∀ m : Nat, SL G w H (List.replicate m none) (List.replicate m none) (List.replicate m [])
  | 0 => .nil
  | m + 1 => .no (SL.nones m)
theorem SL.params {m : Nat} : ∀ {ds : List D} {vs : List V}, FAs G w H ds vs → SL G w H (vs.map some ++ List.replicate m none) (ds.map (fun d => some (0, d)) ++ List.replicate m none) (List.replicate (vs.length + m) [])
  | _, _, .nil => by simpa using SL.nones m
  | _, _, @FAs.cons _ _ _ d ds v vs h hs => by
    have e : (v :: vs).length + m = (vs.length + m) + 1 := by simp; omega
    rw [e]
    exact .so (.zero h) (SL.params hs)
theorem flat_nil (n : Nat) : (List.replicate n ([] : List Addr)).flatten = [] := by induction n <;> simp [List.replicate_succ, *]
theorem at_start {N : List Str} {ds : List D} {vs : List V} {st : Sto} (s : St G w H st) (fa : FAs G w H ds vs) : At G w H w H w H (L2.start N vs) (ds.map (fun d => some (0, d)) ++ List.replicate (N.length - ds.length) none) (List.replicate (vs.length + (N.length - vs.length)) []) st := by
  have e : ds.length = vs.length := fa.length
  refine ⟨Po.refl _ _, Mo.refl _ _, ⟨s, ?_, ?_, ?_⟩, ?_⟩
  · rw [e]; exact SL.params fa
  · rw [flat_nil]; exact List.nodup_nil
  · rw [flat_nil]; exact fun a z => nomatch z
  · rw [flat_nil]; exact fun a z => nomatch z
end
theorem M.run_bind {α β : Type} (m : M α) (f : α → M β) (st : Sto) : (m >>= f) st = match m st with
    | .ok a s1 => f a s1
    | .ex c p s1 => .ex c p s1
    | .no => .no := rfl
theorem runF_out {G : Gx} {wd : Wd} {H : Hp} {b : M (Fl × Env)} {st : Sto} {E : XK} {Q : VK} (o : Out G (FRel G) wd H ((b >>= fun r => match r.1 with
    | .nx => pure .non
    | .rt d => pure d
    | _ => no) st) E Q) : OutS G wd H wd H (b st) (fun cls d _ H => E cls d H) { nx := fun _ H' => Q .non H', rt := Q } := by
  rw [M.run_bind] at o
  cases q : b st with
  | ok r st1 =>
    rw [q] at o
    obtain ⟨fl, ρ1⟩ := r
    cases fl with
    | nx => exact fun σ w1 H1 Os a => o _ w1 H1 a.po a.g.s .non
    | rt d => exact fun v w1 H1 p _ s fr => o v w1 H1 p s fr
    | bk => exact o.elim
    | ct => exact o.elim
  | ex c p st1 =>
    rw [q] at o
    exact fun d σ w1 H1 p _ s x => o d w1 H1 p s x
  | no => rw [q] at o; exact o
/-- THE RULE for a def: by its body -/
theorem fnD_ok {prog : Program} {w : World} {K : PySem.W.Frag} {mg : Str → Option Value} {base : Heap} {x qual : Str} {params : Arguments} {body : List Stmt} {scope : Scope} {f : Addr} {fd : FuncData} {N ps : List Str} {k n : Nat} {G : Gx} {Pr : Pr} {Ss : List S} {p : Str × Option Str}
    (F : FunD K x qual params body scope [] [] f fd) (hf : f = He.fAd K p) (S : FnScope N ps scope) (hn : ps.length = n)
    (D : ∀ (A : Around) (outer : List PySem.Env) (s : Shared) (H : Hp) (E : XK), Room k (A.deeper (envOfC qual scope s.heap.objs.size f (.ref (He.codeOf K p)))) → DSs (cxOf (CXm Pr.nm prog w) prog w K mg base N qual scope f (.ref (He.codeOf K p)) A outer s H E) G Pr body Ss) :
    FnOk prog w K mg base (CXm Pr.nm prog w) (k + 1) f fd ps (spF G n (runF Pr N.length Ss)) := by
  subst hf
  obtain ⟨oc, od, dV, kV, doc, pm, an, cdv, ct, osl, rfl, lk, hcd, _, _⟩ := F.ex
  obtain ⟨c, rfl⟩ := He.codeIn_ref hcd
  have ec : He.codeOf K p = c := He.codeOf_eq lk rfl
  rw [ec] at D
  refine fn_of lk hcd S (fun vs H Q E h => by rw [hn]; exact h.1) fun A outer s H vs Q E hr hsp => ?_
  obtain ⟨_, wd, st, ds, s1, fa, o⟩ := hsp
  refine ⟨_, D A outer s H E hr (fun cls d _ H => E cls d H) wd H wd H (TkM.of rfl rfl rfl rfl), wd, _, _, st, at_start s1 fa, ?_⟩
  unfold runF at o
  generalize hb : evSs Pr Ss (ds.map (fun d => some (0, d)) ++ List.replicate (N.length - ds.length) none) = b at o
  exact runF_out o

/-! ### a lambda handed to a def -/
section
variable {X : Cx} {pins : List (Addr × Obj)} {σ : L2.St} {H : Hp} {s : Shared}
/-- .. the function new -/
theorem lam_makeF {T : List NTab} {nm : Nat → Nat → Str} {c P : Addr} {params : Arguments} {body : Expr} {scope : Scope} {pos : Pos} {E : Value → Shared → Prop} {Q : Value → Shared → Prop} (I : Inv X pins σ H s) (TB : TabB X.base X.mg c P) (hcode : X.env.code = .ref c)
    (hm : (P, nm) ∈ T) (hn : nm pos.line pos.col = X.env.qual ++ "<lambda>") (hu : ∀ p ∈ T, p.1 = P → p.2 = nm) (hT : TabsN T H) (hdef : defaultsOf params X.env = ([], [])) (hfree : ∀ y ∈ scope.names, y.2 = .free → ∃ c, X.env.cells.lookup y.1 = some c)
    (h : ∀ (f c' : Addr) (pm ctv : Value) (H1 : Hp) (s' : Shared), s.heap.objs.size ≤ f → Inv X pins σ H1 s' → ExtN H H1 → (∀ b, H1 b = none → H b = none) → TabsN T H1 →
      s'.heap.get? f = some (PySem.W.kla_obj "<lambda>" (X.env.qual ++ "<lambda>") params body scope (cloFrom X.env.cells scope.names []) pm c' ctv) → H1 f = none → f ∉ frs X.stack → H1 c' = some (CodeO c' (X.env.qual ++ "<lambda>")) → Q (.ref f) s') :
    wpAny (model X.prog X.w) X.A (eval (.Lambda params body scope pos) X.env) Q E s := by
  obtain ⟨ps, hP, ht, ha⟩ := (show TabN H P nm from hT _ hm)
  refine PySem.W.kla_eval hdef ?_
  have bP : s.heap.BuiltinsAt X.mg P := TB.bm.keeps I.bk
  have hP' : s.heap.get? P = some { cls := .none, data := .fields ps } := I.hok P _ hP
  have nofr : ∀ f, s.heap.objs.size ≤ f → f ∉ frs X.stack := fun f hf z => by
    rcases List.mem_cons.mp (I.stkSub _ z) with e | e
    · have h1 := I.lt
      rw [← e] at h1
      exact Nat.lt_irrefl _ (Nat.lt_of_lt_of_le h1 hf)
    · exact I.nofs hf e
  cases hc : codeAmong pos ps.toList with
  | none =>
    refine PySem.W.kla_makeFunction (mg := X.mg) (c := c) (P := P) (ps := ps) (closure_ok hfree) I.ok.glob (I.mod.glob.keeps I.bk) hcode (TB.code.keeps I.bk) hP' ht hc TB.gP bP fun c' ctv h' tk hx hge hlt hrec htb => ?_
    obtain ⟨c2, oc, vs, t, e2, hoc, hd, hv⟩ := hrec
    cases e2
    have hsz : s.heap.objs.size ≤ h'.objs.size := Nat.le_trans hge (Nat.le_of_lt hlt)
    have nC : H c' = none := I.hok.fresh hge
    have I1 := inv_table (t' := tk) (more := #[rawInt pos.line, rawInt pos.col, .ref c']) (h' := h'.push (PySem.W.kla_obj "<lambda>" (X.env.qual ++ "<lambda>") params body scope (cloFrom X.env.cells scope.names []) ((X.mg "__name__").getD .none) c' ctv)) I hP
      (fun b o hb e => Heap.get?_push_of_some _ (hx b o hb e)) (Heap.get?_push_of_some _ htb) hge ⟨oc, vs, t, Heap.get?_push_of_some _ hoc, hd, hv⟩
    have hE : ExtN H (upd (upd H P (.tbl (ps ++ #[rawInt pos.line, rawInt pos.col, .ref c']))) c' (CodeO c' (X.env.qual ++ "<lambda>"))) := fun b o e n => by
      rw [upd_ne (ne_of_none e nC), upd_ne (fun z => n ps (Option.some.inj (e.symm.trans (by rw [z]; exact hP))))]
      exact e
    have eL : (ps ++ #[rawInt pos.line, rawInt pos.col, .ref c']).toList = ps.toList ++ [rawInt pos.line, rawInt pos.col, .ref c'] := by simp
    refine h h'.objs.size c' ((X.mg "__name__").getD .none) ctv _ _ hsz I1 hE (fun b e => upd_none (upd_none e)) (fun p hp => ?_) (Heap.get?_push_size _ rfl) ?_ (nofr _ hsz) upd_same
    · by_cases hb : p.1 = P
      · rw [hu p hp hb, hb]
        refine ⟨_, by rw [upd_ne (ne_of_none hP nC), upd_same], by rw [eL]; exact PySem.TriplesOk_snoc _ _ _ _ ht, fun p' cv hcv => ?_⟩
        rw [eL] at hcv
        rcases among_app2 _ ht hcv with z | ⟨z, z1, z2⟩
        · obtain ⟨c0, e1, e2⟩ := ha p' cv z
          exact ⟨c0, e1, hE _ _ e2 codeO_ne⟩
        · refine ⟨c', z, ?_⟩
          rw [← z1, ← z2, hn]
          exact upd_same
      · obtain ⟨ps', a1, a2, a3⟩ := hT p hp
        refine ⟨ps', by rw [upd_ne (ne_of_none a1 nC), upd_ne hb]; exact a1, a2, fun p' cv hcv => ?_⟩
        obtain ⟨c0, e1, e2⟩ := a3 p' cv hcv
        exact ⟨c0, e1, hE _ _ e2 codeO_ne⟩
    · have n1 : h'.objs.size ≠ c' := Nat.ne_of_gt hlt
      have n2 : h'.objs.size ≠ P := Nat.ne_of_gt (Nat.lt_of_lt_of_le (Heap.lt_size hP') hsz)
      rw [upd_ne n1, upd_ne n2]
      exact I.hok.fresh hsz
  | some cv =>
    obtain ⟨c', e, hco⟩ := ha pos cv hc
    subst e
    rw [hn] at hco
    refine PySem.W.kla_makeFunctionHit (mg := X.mg) (c := c) (P := P) (ps := ps) (closure_ok hfree) I.ok.glob (I.mod.glob.keeps I.bk) hcode (TB.code.keeps I.bk) hP' ht hc bP fun ctv h' tk hx hsz => ?_
    have I1 : Inv X pins σ H { s with heap := h'.push (PySem.W.kla_obj "<lambda>" (X.env.qual ++ "<lambda>") params body scope (cloFrom X.env.cells scope.names []) ((X.mg "__name__").getD .none) c' ctv), toks := tk } := I.kept fun b o e => Heap.get?_push_of_some _ (hx b o e)
    exact h h'.objs.size c' ((X.mg "__name__").getD .none) ctv H _ hsz I1 (ExtN.refl H) (fun _ e => e) hT (Heap.get?_push_size _ rfl) (I.hok.fresh hsz) (nofr _ hsz) hco
end
def tLamN (T : List NTab) (TT : (XK → Hp → VK → Prop) → Hp → VK → Prop) (t : XK → TE) : TE := fun σ H Q => TabsN T H ∧ ∀ H1, ExtN H H1 → (∀ b, H1 b = none → H b = none) → TabsN T H1 → TT (fun E H' Q' => t E σ H' Q') H1 Q
section
variable {X : Cx}
/-- try: return a() / except X: return 'x' / .. -/
def Chain (K : PySem.W.Frag) (cls : Value) (H' : Hp) (Q : VK) : List (Addr × Str) → Prop
  | [] => False
  | (C, ret) :: r => ∃ b, PySem.W.exmOne K cls (.ref C) = some b ∧ (b = true → Q (.str ret) H') ∧ (b = false → Chain K cls H' Q r)
def TTs (K : PySem.W.Frag) (l : List (Addr × Str)) : (XK → Hp → VK → Prop) → Hp → VK → Prop := fun tl H Q => tl (fun cls _ H' => Chain K cls H' Q l) H Q
abbrev hdL (l : List (Addr × Str)) : List (Value × (Addr → Value → Option Addr → TS)) := l.map fun q => (.ref q.1, fun _ _ _ => tRet (tC (.str q.2)))
end
end PV

/-! part PV26 -/
/-! PV26: what is told of a lambda: the rule. -/
namespace PV
open PySem PySem.Spec PyProof.Rows L2 LamX NdefX

/-- the def that tells: x(a): try: return a() except ..: return '..' -/
structure Told (prog : Program) (w : World) (K : PySem.W.Frag) (mg : Str → Option Value) (base : Heap) (x : Str) (l : List (Addr × Str)) : Prop where
  go : ∃ (g : Addr) (pg : Arguments) (bg : List Stmt) (sg : Scope) (dV kV doc pm cdv ct oc : Value) (an od : Option Addr) (osl : Array (Option Value)) (Ng : List Str) (a : Str),
    mg x = some (.ref g) ∧ PySem.W.keepIn K (.ref g) = true ∧ K.lookup g = some ⟨oc, od, .func (PySem.W.fnOf x x pg bg sg dV kV doc pm an cdv ct), osl⟩ ∧ PySem.W.codeIn K cdv x = true ∧
    L2.Binds K (PySem.W.fnOf x x pg bg sg dV kV doc pm an cdv ct) [a] [] ∧ FnScope Ng [a] sg ∧ Ng[0]? = some a ∧ Vis sg a ∧ (a == ("__debug__" : Str)) = false ∧ (a == ("__classdict__" : Str)) = false ∧
    ∀ (X : Cx) (q : Str), X.prog = prog → X.w = w → X.K = K → X.mg = mg → X.base = base → GivesTo X Ng x sg g cdv bg a q (TTs K l)
section
variable {X : Cx} {G : Gx} {P : Pr}
end
end PV

/-! part PV27 -/
/-! PV27: enumerate of a tuple. -/
namespace PySem
open Sem (wp)
set_option maxHeartbeats 4000000 in
section
variable {prog : Program} {w : World} {A : Around} {E : Value → Shared → Prop} {s : Shared}
end
end PySem
namespace PV
open PySem PySem.Spec PyProof.Rows L2 LamX NdefX

/-- the tuple at a, each item in a new pair -/
def IteT (K : PySem.W.Frag) (a : Addr) : It :=
  ⟨fun i H => ∃ (xs : List V) (x : V), SqT K H a xs ∧ xs[i]? = some x, fun i H v H' => ∃ T x, v = .ref T ∧ H T = none ∧ H' = upd H T (.tup [.int (i : Nat), x]) ∧ ∀ xs, SqT K H a xs → xs[i]? = some x, fun i H => ∃ xs : List V, SqT K H a xs ∧ xs.length ≤ i⟩
def iEnumT (K : PySem.W.Frag) (ta : TA) : TI := fun σ H R => ta σ H fun vs H1 => ∃ a xs, vs = [.ref a] ∧ SqT K H1 a xs ∧ R (IteT K a) H1
end PV

/-! part PV28 -/
/-! PV28: min, max of data; of three; tuple(reversed(..)); list(range(i, j, c)). -/
namespace PV
open PySem PySem.W PySem.Spec PyProof.Rows L2 LamX NdefX

mutual
theorem toP_inj : ∀ {a b : D} {p : PyData}, toP a = some p → toP b = some p → a = b
  | .non, b, p, h, k => by
    rw [toP] at h; cases h
    cases b <;> simp [toP] at k ⊢
  | .bl x, b, p, h, k => by
    rw [toP] at h; cases h
    cases b <;> simp [toP] at k ⊢
    exact k.symm
  | .int x, b, p, h, k => by
    rw [toP] at h; cases h
    cases b <;> simp [toP] at k ⊢
    exact k.symm
  | .str x, b, p, h, k => by
    rw [toP] at h; cases h
    cases b <;> simp [toP] at k ⊢
    exact k.symm
  | .tup ds, b, p, h, k => by
    obtain ⟨ps, e1, rfl⟩ := toP_tup h
    cases b with
    | tup es =>
      obtain ⟨qs, e2, e3⟩ := toP_tup k
      cases e3
      rw [toPs_inj e1 e2]
    | lst es => obtain ⟨qs, e2, e3⟩ := toP_lst k; cases e3
    | _ => simp [toP] at k
  | .lst ds, b, p, h, k => by
    obtain ⟨ps, e1, rfl⟩ := toP_lst h
    cases b with
    | lst es =>
      obtain ⟨qs, e2, e3⟩ := toP_lst k
      cases e3
      rw [toPs_inj e1 e2]
    | tup es => obtain ⟨qs, e2, e3⟩ := toP_tup k; cases e3
    | _ => simp [toP] at k
  | .dic _, b, p, h, k => by simp [toP] at h
  | .dit _, b, p, h, k => by simp [toP] at h
  | .ins _ _, b, p, h, k => by simp [toP] at h
  | .ref _, b, p, h, k => by simp [toP] at h
theorem toPs_inj : ∀ {a b : List D} {p : List PyData}, toPs a = some p → toPs b = some p → a = b
  | [], [], _, _, _ => rfl
  | [], e :: es, p, h, k => by
    rw [toPs] at h; cases h
    obtain ⟨q, qs, _, _, e⟩ := toPs_cons k
    cases e
  | d :: ds, [], p, h, k => by
    rw [toPs] at k; cases k
    obtain ⟨q, qs, _, _, e⟩ := toPs_cons h
    cases e
  | d :: ds, e :: es, p, h, k => by
    obtain ⟨q, qs, h1, h2, rfl⟩ := toPs_cons h
    obtain ⟨q', qs', k1, k2, e⟩ := toPs_cons k
    cases e
    rw [toP_inj h1 k1, toPs_inj h2 k2]
end
def bestP (mx : Bool) (p : PyData) (ps : List PyData) : PyData := if mx then maxD p ps else minD p ps
section
variable {X : Cx}
def rBest (K : PySem.W.Frag) (mx : Bool) : List V → Hp → VK → Prop := fun vs H Q => ∃ a xs p ps, vs = [.ref a] ∧ (SqL K H a xs ∨ SqT K H a xs) ∧ DpAll K H xs (p :: ps) ∧ AlikeAll (p :: ps) ∧ PyData.depthAll (p :: ps) ≤ 16 ∧ ∀ (i : Nat) (v : V), xs[i]? = some v → (p :: ps)[i]? = some (bestP mx p ps) → Q v H
def bestN (mx : Bool) : String := if mx then "max" else "min"
end
section
variable {X : Cx} {G : Gx} {P : Pr} {pos : Pos} {p : Expr} {ps : List Expr} {es : List E} {q : Pos}
theorem KRs.three {w : Wd} {H H0 : Hp} {Os : List (List Addr)} {x y z : KD} {vs : List V} (h : KRs G Os w H H0 [x, y, z] vs) : ∃ v u t, vs = [v, u, t] ∧ KR G Os w H H0 x v ∧ KR G Os w H H0 y u ∧ KR G Os w H H0 z t := by
  cases h with
  | cons a b => cases b with | cons b c => cases c with | cons c d => cases d; exact ⟨_, _, _, rfl, a, b, c⟩
theorem Out.b3 {α β : Type} {Rel : Wd → Hp → Hp → α → β → Prop} {w : Wd} {H : Hp} {f : KD → KD → KD → M α} {xs : List KD} {st : Sto} {W : XK} {Q : β → Hp → Prop} (h : Out G Rel w H (b3 f xs st) W Q) : ∃ x y z, xs = [x, y, z] ∧ Out G Rel w H (f x y z st) W Q := by
  match xs, h with
  | [x, y, z], h => exact ⟨x, y, z, rfl, h⟩
  | [], h => exact h.elim
  | [_], h => exact h.elim
  | [_, _], h => exact h.elim
  | _ :: _ :: _ :: _ :: _, h => exact h.elim
/-! list(range(i, j, c)) -/
theorem frs_ints {G : Gx} {w : Wd} {H : Hp} : ∀ is : List Int, FRs G w H (is.map .int) (is.map .int)
  | [] => .nil
  | i :: is => .cons rfl (.int i) (frs_ints is)
end
end PV

/-! part PV29 -/
/-! PV29: enumerate, zip: in comprehensions, in for statements. -/
namespace PV
open PySem PySem.Spec PyProof.Rows L2 LamX NdefX

section
variable {G : Gx} {w : Wd} {H H0 : Hp} {Os : List (List Addr)}
end
section
variable {X : Cx} {G : Gx} {P : Pr} {pos : Pos} {elts : List Expr} {kk : Nat} {tpos : Pos}
end
end PV

/-! part PV30 -/
/-! PV30: an item of a list of the store's is set. -/
namespace PV
open PySem PySem.Spec PyProof.Rows L2 LamX NdefX

section
variable {G : Gx} {w : Wd} {H : Hp} {a : Addr}
theorem tabsN_lst {T : List NTab} {vs vs' : List V} (ha : H a = some (.lst vs)) (t : TabsN T H) : TabsN T (upd H a (.lst vs')) := fun p hp => by
  obtain ⟨ps, h1, h2, h3⟩ := t p hp
  refine ⟨ps, by rw [upd_ne (fun z => by rw [z, ha] at h1; cases h1)]; exact h1, h2, fun pos cv hc => ?_⟩
  obtain ⟨c, e1, e2⟩ := h3 pos cv hc
  exact ⟨c, e1, by rw [upd_ne (fun z => by rw [z, ha] at e2; unfold CodeO at e2; cases e2)]; exact e2⟩
theorem some_lst {b : Addr} {vs : List V} (h : ∃ o, H b = some o ∧ ∀ ps, o ≠ .tbl ps) : ∃ o, upd H a (.lst vs) b = some o ∧ ∀ ps, o ≠ .tbl ps := by
  by_cases c : b = a
  · subst c
    exact ⟨_, upd_same, fun ps e => by cases e⟩
  · rw [upd_ne c]; exact h
theorem FRs.set {d : D} {v : V} (n : isR d = false) (h : FR G w H d v) : ∀ {ds : List D} {vs : List V} (j : Nat), FRs G w H ds vs → FRs G w H (ds.set j d) (vs.set j v)
  | _, _, _, .nil => .nil
  | _, _, 0, .cons _ _ r => .cons n h r
  | _, _, j + 1, .cons m q r => .cons m q (FRs.set n h j r)
end
section
variable {X : Cx} {G : Gx} {P : Pr} {pos : Pos}
theorem setiM_nx (o i d : D) {s s' : Sto} {c : Nat} {p : D} : setiM o i d s ≠ .ex c p s' := by
  cases o with
  | ref n =>
    cases i with
    | int j =>
      show setiN n j d s[n]? s ≠ _
      cases s[n]? with
      | none => exact fun z => nomatch z
      | some nd =>
        cases nd with
        | ni _ _ => exact fun z => nomatch z
        | nk _ _ => exact fun z => nomatch z
        | nd _ => exact fun z => nomatch z
        | nl ds =>
          unfold setiN
          dsimp only
          cases L2.ixN ds.length j with
          | none => exact fun z => nomatch z
          | some k => exact fun z => nomatch z
    | _ => exact fun z => nomatch z
  | _ => exact fun z => nomatch z
theorem ds_seti {po pi pe : Expr} {o i e : PV.E} {pos' : Pos} (ho : DE X G P po o) (hi : DE X G P pi i) (he : DE X G P pe e)
    (ha : ∀ v, assign (.Subscript po pi pos') X.env v = (do
      let ov ← holding [v] (eval po X.env)
      let iv ← holding [v, ov] (eval pi X.env)
      standAt pos'
      holding [v, ov, iv] (setItem ov iv v)
      release [v, ov, iv] []) := by intro _; rfl)
    (hs : swapsWithSole [.Subscript po pi pos'] pe pos.line X.env = pure false := by rfl) (hw : swappedStores [.Subscript po pi pos'] pe X.env = pure none := by rfl)
    (h1 : (assignEach [.Subscript po pi pos'] X.env).map (·.2) = [assign (.Subscript po pi pos') X.env] := by rfl) : DS X G P (.Assign [.Subscript po pi pos'] pe pos) (.seti o i e) := fun W w0 H0 wL HL tk => ims (ps_asg (he W tk) (pg_sub (ho W tk) (hi W tk) set_list ha) hs hw h1) fun E σ H ⟨w, ρ, Os, st, a, ot⟩ => by
  rw [evS] at ot
  refine tE_S a ot fun x st1 v w1 H1 a1 p1 k1 o1 => ?_
  refine tE_S a1 o1 fun y st2 u w2 H2 a2 p2 k2 o2 => ?_
  refine tE_S a2 o2 fun z st3 t w3 H3 a3 p3 k3 o3 => ?_
  have kx := (k1.po a1.g.s.wf p2 a1.g.ap).po a2.g.s.wf p3 a2.g.ap
  have ky := (k2.po a2.g.s.wf p3 a2.g.ap)
  rcases o3.bind with ⟨d, st4, e4, o4⟩ | ⟨_, _, _, e3, _⟩
  rotate_left
  · unfold PV.put at e3; split at e3 <;> cases e3
  obtain ⟨hput, rfl, rfl⟩ : putB x = true ∧ d = x.2 ∧ st4 = st3 := by
    unfold PV.put at e4
    cases q : putB x with
    | true => rw [q] at e4; cases e4; exact ⟨rfl, rfl, rfl⟩
    | false => rw [q] at e4; cases e4
  unfold putB at hput
  simp only [Bool.and_eq_true, Bool.not_eq_true'] at hput
  obtain ⟨O, own, fx⟩ := kx.sees hput.1
  have a5 := a3.frz own a.po.th a.osT
  have fx := fx O fun _ z => z
  obtain ⟨ky', dy⟩ := y
  obtain ⟨kz', dz⟩ := z
  rcases o4.bind with ⟨q, st5, e5, o5⟩ | ⟨_, _, _, e5, _⟩
  rotate_left
  · exact absurd e5 (setiM_nx _ _ _)
  unfold setiM at e5
  dsimp only at e5
  split at e5
  rotate_left
  · cases e5
  rename_i n j
  unfold setiR at e5
  obtain rfl := k3.int
  have fy := ky.nc rfl
  cases fy with
  | @ref _ b eb =>
    cases en : st4[n]? with
    | none => rw [en] at e5; cases e5
    | some nd =>
      rw [en] at e5
      cases nd with
      | ni _ _ => cases e5
      | nk _ _ => cases e5
      | nd _ => cases e5
      | nl ds =>
        unfold setiN at e5
        dsimp only at e5
        cases ej : ixN ds.length j with
        | none => rw [ej] at e5; cases e5
        | some k =>
          rw [ej] at e5
          cases e5
          have eb' : (w3.frz O).ρ[n]? = some b := eb
          obtain ⟨On, hn⟩ := a5.g.s.nr.get en eb'
          have hρ : b ∈ (w3.frz O).ρ := List.mem_of_getElem? eb'
          have hF : ¬ (w3.frz O).F b := fun z => (a5.g.s.wf.fr b z).1 hρ
          cases hn with
          | @nl _ vs _ h1 hs =>
            refine ⟨b, vs, j, k, rfl, rfl, h1, by rw [← hs.length]; exact ej, ?_⟩
            have hs' := FRs.set hput.2 fx k hs
            have nr : NRs G (w3.frz O) (upd H3 b (.lst (vs.set k v))) (st4.set n (.nl (ds.set k x.2))) (w3.frz O).ρ (w3.frz O).O := by
              refine NRs.setN hF hρ a5.g.s.nr a5.g.s.wf.nd eb' fun Oq ⟨nd0, q1, q2⟩ => ?_
              rw [en] at q1
              cases q1
              cases q2 with
              | nl g1 g2 => exact .nl upd_same (hs'.mr hF)
            have wf' : Wf G (w3.frz O) (upd H3 b (.lst (vs.set k v))) :=
              ⟨fun q z => some_lst (a5.g.s.wf.fa q z), a5.g.s.wf.fr, a5.g.s.wf.nd, fun q z => ⟨some_lst (a5.g.s.wf.ra q z).1, (a5.g.s.wf.ra q z).2⟩, fun q z => some_lst (a5.g.s.wf.oa q z), tabsN_lst h1 a5.g.s.wf.tb⟩
            have po' : Po w0 H0 (w3.frz O) (upd H3 b (.lst (vs.set k v))) := by
              have pp := a5.po
              refine ⟨pp.fm, pp.fn, pp.sp, pp.on, fun q t q1 qf q2 q3 q4 => ?_, fun q t q1 qf q2 q3 q4 => ?_, fun q z => ?_, pp.ktR a5.g.s hρ (a5.g.s.unl en eb' fun _ _ e => by cases e), fun q n => pp.nu q (NT.updP (fun _ z => by cases z) (fun _ z => by cases z) n)⟩
              · rw [upd_ne (fun z => ?_)]
                · exact pp.kn q t q1 qf q2 q3 q4
                · subst z
                  obtain ⟨more, em, nm⟩ := pp.sp
                  rw [em] at hρ
                  rcases List.mem_append.mp hρ with z | z
                  · exact q2 z
                  · rw [nm q z] at q1; cases q1
              · rw [upd_ne (fun z => ?_)]
                · exact pp.kf q t q1 qf q2 q3 q4
                · subst z
                  obtain ⟨more, em, nm⟩ := pp.sp
                  rw [em] at hρ
                  rcases List.mem_append.mp hρ with z | z
                  · exact q2 z
                  · rw [nm q z] at q1; cases q1
              · by_cases cq : q = b
                · subst cq; rw [upd_same] at z; cases z
                · rw [upd_ne cq] at z; exact pp.th q z
            have mo' : Mo wL HL (w3.frz O) (upd H3 b (.lst (vs.set k v))) :=
              a5.mo.mr a5.g.s hF hρ (a5.g.s.unl en eb' fun _ _ e => by cases e)
            exact fin_nx o5 ⟨po', mo', ⟨⟨wf', nr, a5.g.s.nd, a5.g.s.lkset en fun _ _ e => by cases e⟩, a5.g.sl.mr hF hρ, a5.g.nd, a5.g.ap⟩, a5.nw⟩
end
end PV

/-! part PV31 -/
/-! PV31: what a law's text asks of the facts: built-in names, defs, tables, exceptions, what is told. -/
namespace PV
open PySem PySem.Spec PyProof.Rows L2 LamX NdefX

/-- a method's text -/
def methAt (s : Stmt) (j : Nat) : Stmt := match s with
  | .ClassDef _ _ _ b _ _ _ _ _ _ _ => b.getD j (.Pass ⟨0, 0, 0, 0⟩)
  | _ => .Pass ⟨0, 0, 0, 0⟩
def forBody (s : Stmt) : List Stmt := match defBody s with
  | .For _ _ b _ _ :: _ => b
  | _ => []
/-- built-in names that the program leaves alone -/
structure BF (mg : Str → Option Value) : Prop where
  any : mg "any" = none
  all : mg "all" = none
  sum : mg "sum" = none
  len : mg "len" = none
  abs : mg "abs" = none
  int : mg "int" = none
  str : mg "str" = none
  list : mg "list" = none
  tuple : mg "tuple" = none
  dict : mg "dict" = none
  min : mg "min" = none
  max : mg "max" = none
  sorted : mg "sorted" = none
  range : mg "range" = none
  enumerate : mg "enumerate" = none
  zip : mg "zip" = none
  reversed : mg "reversed" = none
  isinstance : mg "isinstance" = none
  set : mg "set" = none
  bool : mg "bool" = none
def FnP (b : Nat) (prog : Program) (w : World) (K : PySem.W.Frag) (mg : Str → Option Value) (base : Heap) (G : Gx) (k : Nat) (x : Str) (n : Nat) (m : List D → M D) : Prop :=
  ∃ f fd ps, mg x = some (.ref f) ∧ PySem.W.keepIn K (.ref f) = true ∧ L2.Binds K fd ps [] ∧ FnOk prog w K mg base (CXm b prog w) k f fd ps (spF G n m)
theorem FnP.fn {b : Nat} {X : Cx} {G : Gx} {k : Nat} {x : Str} {n : Nat} {m : List D → M D} (h : FnP b X.prog X.w X.K X.mg X.base G k x n m) : Fn b X G k x n m := ⟨h⟩
def MtP (b : Nat) (prog : Program) (w : World) (K : PySem.W.Frag) (mg : Str → Option Value) (base : Heap) (G : Gx) (k : Nat) (C : Addr) (x : Str) (n : Nat) (m : List D → M D) : Prop :=
  ∃ f fd ps, Meth K C x f ∧ L2.Binds K fd ps [] ∧ FnOk prog w K mg base (CXm b prog w) k f fd ps (spF G n m)
theorem MtP.mt {b : Nat} {X : Cx} {G : Gx} {k : Nat} {C : Addr} {x : Str} {n : Nat} {m : List D → M D} (h : MtP b X.prog X.w X.K X.mg X.base G k C x n m) : Mt b X G k C x n m := ⟨h⟩
def NwP (b : Nat) (prog : Program) (w : World) (K : PySem.W.Frag) (mg : Str → Option Value) (base : Heap) (G : Gx) (k : Nat) (x : Str) (c n : Nat) (m : List D → M D) : Prop :=
  ∃ C fs f fd ps, mg x = some (.ref C) ∧ G.cl c = some (C, fs) ∧ Mk K C f ∧ L2.Binds K fd ps [] ∧ FnOk prog w K mg base (CXm b prog w) k f fd ps (spF G (n + 1) m)
theorem NwP.nw {b : Nat} {X : Cx} {G : Gx} {k : Nat} {x : Str} {c n : Nat} {m : List D → M D} (h : NwP b X.prog X.w X.K X.mg X.base G k x c n m) : Nw b X G k x c n m := ⟨h⟩
theorem FnP.weak {b : Nat} {prog : Program} {w : World} {K : PySem.W.Frag} {mg : Str → Option Value} {base : Heap} {G : Gx} {k : Nat} {x : Str} {n : Nat} {m : List D → M D} (h : FnP b prog w K mg base G k x n m) : FnP 0 prog w K mg base G k x n m := by
  obtain ⟨f, fd, ps, h1, h2, h3, h4⟩ := h
  exact ⟨f, fd, ps, h1, h2, h3, fnm_l h4⟩
theorem MtP.weak {b : Nat} {prog : Program} {w : World} {K : PySem.W.Frag} {mg : Str → Option Value} {base : Heap} {G : Gx} {k : Nat} {C : Addr} {x : Str} {n : Nat} {m : List D → M D} (h : MtP b prog w K mg base G k C x n m) : MtP 0 prog w K mg base G k C x n m := by
  obtain ⟨f, fd, ps, h1, h3, h4⟩ := h
  exact ⟨f, fd, ps, h1, h3, fnm_l h4⟩
theorem NwP.weak {b : Nat} {prog : Program} {w : World} {K : PySem.W.Frag} {mg : Str → Option Value} {base : Heap} {G : Gx} {k : Nat} {x : Str} {c n : Nat} {m : List D → M D} (h : NwP b prog w K mg base G k x c n m) : NwP 0 prog w K mg base G k x c n m := by
  obtain ⟨C, fs, f, fd, ps, h1, h2, h3, h5, h4⟩ := h
  exact ⟨C, fs, f, fd, ps, h1, h2, h3, h5, fnm_l h4⟩
theorem _root_.L2.Room.u80 {k : Nat} {A : Around} (r : Room k A) : A.units + 80 < cLine := by have := r.un; omega
/-! ### tables of code objects -/
def GT (K : PySem.W.Frag) (tabs : List (He.Defn × (Nat → Nat → Str))) : List NTab := tabs.map fun t => ((He.cT K t.1).2, t.2)
theorem tabAt_of {K : PySem.W.Frag} {mg : Str → Option Value} {base : Heap} {tabs : List (He.Defn × (Nat → Nat → Str))} {X : Cx} {p : He.Defn} {nm : Nat → Nat → Str} {pos : Pos} {name : Str} (TB : ∀ t ∈ tabs, TabB base mg (He.cT K t.1).1 (He.cT K t.1).2) (nd : (tabs.map fun t => (He.cT K t.1).2).Nodup)
    (h : (p, nm) ∈ tabs) (hb : X.base = base) (hm : X.mg = mg) (hc : X.env.code = .ref (He.codeOf K p)) (hn : nm pos.line pos.col = X.env.qual ++ name) : TabAt X (GT K tabs) pos name := by
  refine ⟨_, _, nm, ?_, hc, List.mem_map.mpr ⟨_, h, rfl⟩, fun q hq e => ?_, hn⟩
  · rw [hb, hm]; exact TB _ h
  · obtain ⟨t, ht, rfl⟩ := List.mem_map.mp hq
    have : ∀ {l : List (He.Defn × (Nat → Nat → Str))}, (l.map fun t => (He.cT K t.1).2).Nodup → ∀ t ∈ l, ∀ u ∈ l, (He.cT K t.1).2 = (He.cT K u.1).2 → t = u := by
      intro l
      induction l with
      | nil => intro _ t ht; exact nomatch ht
      | cons a l ih =>
        intro hn t ht u hu e
        rw [List.map_cons, List.nodup_cons] at hn
        rcases List.mem_cons.mp ht with h1 | h1
        · rcases List.mem_cons.mp hu with h2 | h2
          · rw [h1, h2]
          · rw [h1] at e
            exact absurd (List.mem_map.mpr ⟨u, h2, e.symm⟩) hn.1
        · rcases List.mem_cons.mp hu with h2 | h2
          · rw [h2] at e
            exact absurd (List.mem_map.mpr ⟨t, h1, e⟩) hn.1
          · exact ih hn.2 t h1 u h2 e
    have := this nd t ht _ h e
    rw [this]
theorem tabsN_empty {K : PySem.W.Frag} {tabs : List (He.Defn × (Nat → Nat → Str))} {H : Hp} (h : ∀ t ∈ tabs, H (He.cT K t.1).2 = some (.tbl #[])) : TabsN (GT K tabs) H := fun p hp => by
  obtain ⟨t, ht, rfl⟩ := List.mem_map.mp hp
  refine ⟨#[], h t ht, ?_, fun p' cv hcv => ?_⟩
  · simp [PySem.TriplesOk]
  · simp [codeAmong] at hcv
/-! ### exceptions -/
theorem xc_of {X : Cx} {K : PySem.W.Frag} {mg : Str → Option Value} {x : Str} (hK : X.K = K) (hm : X.mg = mg) (h : mg x = some (.ref (He.ga K x))) (c : (He.Fa.exc x).ok K = true) : Xc X (He.ga K x) x := by
  subst hK hm
  obtain ⟨c1, c2, c3, c4⟩ := He.exc_ok c
  exact ⟨_, _, _, _, PySem.F.excBase_ValueError, c1, h, c2, raises_own c3 c4⟩
/-! ### what is told -/
end PV

/-! part PV32 -/
/-! PV32: running the small language in plain terms: what a run gives (Q), what it lets out (X). -/
namespace PV
open PySem L2

section
variable {α β γ : Type}
def Wp (m : M α) (st : Sto) (Q : α → Sto → Prop) (X : Nat → D → Sto → Prop) : Prop := match m st with
  | .ok a s => Q a s
  | .ex c p s => X c p s
  | .no => False
variable {st : Sto} {X : Nat → D → Sto → Prop}
@[simp] theorem wp_pure {a : α} {Q : α → Sto → Prop} : Wp (pure a) st Q X ↔ Q a st := Iff.rfl
@[simp] theorem wp_raise {c : Nat} {p : D} {Q : α → Sto → Prop} : Wp (raise c p : M α) st Q X ↔ X c p st := Iff.rfl
@[simp] theorem wp_no {Q : α → Sto → Prop} : Wp (no : M α) st Q X ↔ False := Iff.rfl
@[simp] theorem wp_bind {m : M α} {f : α → M β} {Q : β → Sto → Prop} : Wp (m >>= f) st Q X ↔ Wp m st (fun a s => Wp (f a) s Q X) X := by
  unfold Wp
  rw [M.run_bind]
  cases m st <;> rfl
theorem Wp.mono {m : M α} {Q Q' : α → Sto → Prop} {X' : Nat → D → Sto → Prop} (h : Wp m st Q X) (i : ∀ a s, Q a s → Q' a s) (j : ∀ c p s, X c p s → X' c p s) : Wp m st Q' X' := by
  unfold Wp at h ⊢
  cases e : m st with
  | ok a s => rw [e] at h; exact i _ _ h
  | ex c p s => rw [e] at h; exact j _ _ _ h
  | no => rw [e] at h; exact h
theorem Wp.mono1 {m : M α} {Q Q' : α → Sto → Prop} (h : Wp m st Q X) (i : ∀ a s, Q a s → Q' a s) : Wp m st Q' X := h.mono i fun _ _ _ h => h
@[simp] theorem wp_ofO_some {a : α} {Q : α → Sto → Prop} : Wp (ofO (some a)) st Q X ↔ Q a st := Iff.rfl
@[simp] theorem wp_ofO_none {Q : α → Sto → Prop} : Wp (ofO (none : Option α)) st Q X ↔ False := Iff.rfl
theorem wp_ite {c : Prop} [Decidable c] {m n : M α} {Q : α → Sto → Prop} : Wp (if c then m else n) st Q X ↔ (c → Wp m st Q X) ∧ (¬ c → Wp n st Q X) := by
  split
  · rename_i h; exact ⟨fun r => ⟨fun _ => r, fun z => absurd h z⟩, fun r => r.1 h⟩
  · rename_i h; exact ⟨fun r => ⟨fun z => absurd z h, fun _ => r⟩, fun r => r.2 h⟩
theorem wp_ifno {c : Prop} [Decidable c] {m : M α} {Q : α → Sto → Prop} : Wp (if c then m else no) st Q X ↔ c ∧ Wp m st Q X := by
  split
  · rename_i h; exact ⟨fun r => ⟨h, r⟩, fun r => r.2⟩
  · rename_i h; exact ⟨fun r => r.elim, fun r => absurd r.1 h⟩
theorem wp_ok {m : M α} {s : Sto} {a : α} {Q : α → Sto → Prop} (e : m st = .ok a s) (q : Q a s) : Wp m st Q X := by unfold Wp; rw [e]; exact q
theorem ok_of_wp {m : M α} {a : α} {s : Sto} (h : Wp m st (fun b t => b = a ∧ t = s) fun _ _ _ => False) : m st = .ok a s := by
  unfold Wp at h
  cases e : m st with
  | ok b t => rw [e] at h; obtain ⟨rfl, rfl⟩ := h; rfl
  | ex c p t => rw [e] at h; exact h.elim
  | no => rw [e] at h; exact h.elim
theorem ex_of_wp {m : M α} {c : Nat} {p : D} {s : Sto} (h : Wp m st (fun _ _ => False) fun d q t => d = c ∧ q = p ∧ t = s) : m st = .ex c p s := by
  unfold Wp at h
  cases e : m st with
  | ok b t => rw [e] at h; exact h.elim
  | ex d q t => rw [e] at h; obtain ⟨rfl, rfl, rfl⟩ := h; rfl
  | no => rw [e] at h; exact h.elim
/-- a run that gives a value and leaves the store alone -/
theorem eq_pure {m : M α} {a : α} (h : ∀ st, Wp m st (fun b t => b = a ∧ t = st) fun _ _ _ => False) : m = pure a := by
  funext s
  exact ok_of_wp (h s)
theorem wp_calm {m : M α} {Q : α → Sto → Prop} (h : Wp m st Q fun _ _ _ => False) : Wp (calm m) st Q X := by
  unfold Wp at h ⊢
  unfold calm
  cases e : m st with
  | ok a s => rw [e] at h; exact h
  | ex c p s => rw [e] at h; exact h.elim
  | no => rw [e] at h; exact h.elim
@[simp] theorem calm_pure (a : α) : calm (pure a : M α) = pure a := rfl
@[simp] theorem wp_told {h : Nat → Option D} {m : M D} {Q : D → Sto → Prop} : Wp (toldM h m) st Q X ↔ Wp m st Q fun c p s => ∃ d, h c = some d ∧ Q d s := by
  unfold Wp toldM
  cases m st with
  | ok a s => rfl
  | ex c p s =>
    dsimp only
    cases e : h c with
    | none => simp
    | some d => simp
  | no => rfl
/-! folds -/
end
/-! ### the language: expressions -/
section
variable {P : Pr} {ρ : Env} {st : Sto} {X : Nat → D → Sto → Prop} {Q : KD → Sto → Prop}
@[simp] theorem readK_zero (d : D) : readK 0 d = (.fz, d) := by simp [readK]
@[simp] theorem readK_lst (l : Nat) (ds : List D) : readK (l + 1) (.lst ds) = (.bo (l + 1), .lst ds) := by simp [readK, isC]
@[simp] theorem wp_lit {d : D} : Wp (evE P (.lit d) ρ) st Q X ↔ Q (.fz, d) st := by rw [evE]; rfl
/-- a name's slot, read -/
def getV (ρ : Env) (i : Nat) (Q : KD → Prop) : Prop := match ρ[i]? with
  | some (some (l, d)) => Q (readK l d)
  | _ => False
@[simp] theorem wp_var {i : Nat} : Wp (evE P (.var i) ρ) st Q X ↔ getV ρ i fun x => Q x st := by
  rw [evE]
  unfold getV
  cases ρ[i]? with
  | none => rfl
  | some o => cases o with
    | none => rfl
    | some p => rfl
@[simp] theorem getV_cons {x : Option (Nat × D)} {ρ : Env} {i : Nat} {Q : KD → Prop} : getV (x :: ρ) (i + 1) Q ↔ getV ρ i Q := by simp [getV]
@[simp] theorem getV_zero {l : Nat} {d : D} {ρ : Env} {Q : KD → Prop} : getV (some (l, d) :: ρ) 0 Q ↔ Q (readK l d) := by simp [getV]
@[simp] theorem wp_bin {o : Operator} {a b : E} : Wp (evE P (.bin o a b) ρ) st Q X ↔ Wp (evE P a ρ) st (fun x s => Wp (evE P b ρ) s (fun y s => Wp (binD o x y) s Q X) X) X := by rw [evE]; simp
@[simp] theorem wp_neg {a : E} : Wp (evE P (.neg a) ρ) st Q X ↔ Wp (evE P a ρ) st (fun x s => ∃ i, x.2 = .int i ∧ Q (.fz, .int (-i)) s) X := by
  rw [evE, wp_bind]
  constructor <;> intro h <;> refine h.mono1 fun x s h => ?_
  · obtain ⟨k, d⟩ := x
    cases d with
    | int i => exact ⟨i, rfl, h⟩
    | _ => exact h.elim
  · obtain ⟨i, e, h⟩ := h
    rw [e]; exact h
/-- a test -/
@[simp] theorem wp_evB {e : E} {Q : Bool → Sto → Prop} : Wp (evB P e ρ) st Q X ↔ Wp (evE P e ρ) st (fun x s => Wp (ofO (boolO x.2)) s Q X) X := by unfold evB; simp
@[simp] theorem boolO_bl (b : Bool) : boolO (.bl b) = some b := rfl
@[simp] theorem wp_nt {a : E} : Wp (evE P (.nt a) ρ) st Q X ↔ Wp (evE P a ρ) st (fun x s => Wp (ofO (boolO x.2)) s (fun b s => Q (.fz, .bl (!b)) s) X) X := by rw [evE]; simp
@[simp] theorem wp_an {a b : E} : Wp (evE P (.an a b) ρ) st Q X ↔ Wp (evE P a ρ) st (fun x s => Wp (ofO (boolO x.2)) s (fun c s => (c = true → Wp (evE P b ρ) s Q X) ∧ (c = false → Q (.fz, .bl false) s)) X) X := by
  rw [evE]; simp only [wp_bind, wp_ite, wp_pure, Bool.not_eq_true]
@[simp] theorem wp_orr {a b : E} : Wp (evE P (.orr a b) ρ) st Q X ↔ Wp (evE P a ρ) st (fun x s => Wp (ofO (boolO x.2)) s (fun c s => (c = true → Q (.fz, .bl true) s) ∧ (c = false → Wp (evE P b ρ) s Q X)) X) X := by
  rw [evE]; simp only [wp_bind, wp_ite, wp_pure, Bool.not_eq_true]
@[simp] theorem wp_iteE {c a b : E} : Wp (evE P (.ite c a b) ρ) st Q X ↔ Wp (evE P c ρ) st (fun x s => Wp (ofO (boolO x.2)) s (fun c s => (c = true → Wp (evE P a ρ) s Q X) ∧ (c = false → Wp (evE P b ρ) s Q X)) X) X := by
  rw [evE]; simp only [wp_bind, wp_ite, Bool.not_eq_true]
@[simp] theorem wp_cmp {o : CmpOp} {a b : E} : Wp (evE P (.cmp o a b) ρ) st Q X ↔ Wp (evE P a ρ) st (fun x s => Wp (evE P b ρ) s (fun y s => Wp (cmpD o x.2 y.2) s (fun c s => Q (.fz, .bl c) s) X) X) X := by rw [evE]; simp
@[simp] theorem wp_cmp3 {o1 o2 : CmpOp} {a b c : E} : Wp (evE P (.cmp3 a o1 b o2 c) ρ) st Q X ↔ Wp (evE P a ρ) st (fun x s => Wp (evE P b ρ) s (fun y s => Wp (cmpD o1 x.2 y.2) s (fun t s => (t = true → Wp (evE P c ρ) s (fun z s => Wp (cmpD o2 y.2 z.2) s (fun u s => Q (.fz, .bl u) s) X) X) ∧ (t = false → Q (.fz, .bl false) s)) X) X) X := by
  rw [evE]; simp only [wp_bind, wp_ite, wp_pure, Bool.not_eq_true]
@[simp] theorem wp_tup {es : List E} : Wp (evE P (.tup es) ρ) st Q X ↔ Wp (evEs P es ρ) st (fun xs s => keepsB xs = true ∧ Q (.fz, .tup (xs.map (·.2))) s) X := by
  rw [evE]; simp only [wp_bind, keeps, wp_ifno, wp_pure]
@[simp] theorem wp_lst {es : List E} : Wp (evE P (.lst es) ρ) st Q X ↔ Wp (evEs P es ρ) st (fun xs s => keepsB xs = true ∧ Q (newK xs, .lst (xs.map (·.2))) s) X := by
  rw [evE]; simp only [wp_bind, keeps, wp_ifno, wp_pure]
@[simp] theorem wp_idx {a i : E} : Wp (evE P (.idx a i) ρ) st Q X ↔ Wp (evE P a ρ) st (fun x s => Wp (evE P i ρ) s (fun y s => Wp (idxD x y.2) s Q X) X) X := by rw [evE]; simp
@[simp] theorem wp_slc {a : E} {lo hi : Option E} : Wp (evE P (.slc a lo hi) ρ) st Q X ↔ Wp (evE P a ρ) st (fun x s => Wp (evO P lo ρ) s (fun l s => Wp (evO P hi ρ) s (fun h s => Wp (slcD x l h) s Q X) X) X) X := by rw [evE]; simp
@[simp] theorem wp_evO_none {Q : Option Int → Sto → Prop} : Wp (evO P none ρ) st Q X ↔ Q none st := by rw [evO]; rfl
@[simp] theorem wp_evO_some {e : E} {Q : Option Int → Sto → Prop} : Wp (evO P (some e) ρ) st Q X ↔ Wp (evE P e ρ) st (fun x s => Wp (ofO (intO x.2)) s (fun i s => Q (some i) s) X) X := by rw [evO]; simp
@[simp] theorem intO_int (i : Int) : intO (.int i) = some i := rfl
@[simp] theorem wp_call {f : Nat} {es : List E} : Wp (evE P (.call f es) ρ) st Q X ↔ Wp (evEs P es ρ) st (fun xs s => argsB xs = true ∧ Wp (P.fn f (xs.map (·.2))) s (fun d s => Q (.fz, d) s) X) X := by
  rw [evE]; simp only [wp_bind, args, wp_ifno, wp_pure]
@[simp] theorem wp_make {c : Nat} {es : List E} : Wp (evE P (.make c es) ρ) st Q X ↔ Wp (evEs P es ρ) st (fun xs s => argsB xs = true ∧ Wp (P.new c (xs.map (·.2))) s (fun d s => Q (.fz, d) s) X) X := by
  rw [evE]; simp only [wp_bind, args, wp_ifno, wp_pure]
@[simp] theorem wp_meth {c f : Nat} {o : E} {es : List E} : Wp (evE P (.meth c f o es) ρ) st Q X ↔ Wp (evE P o ρ) st (fun x s => keepB x.1 = true ∧ Wp (clsD x.2) s (fun c' s => c' = c ∧ Wp (evEs P es ρ) s (fun xs s => argsB xs = true ∧ Wp (P.fn f (x.2 :: xs.map (·.2))) s (fun d s => Q (.fz, d) s) X) X) X) X := by
  rw [evE]; simp only [wp_bind, keep, args, wp_ifno, wp_pure]
@[simp] theorem wp_clsD_ins {c : Nat} {fs : List D} {Q : Nat → Sto → Prop} : Wp (clsD (.ins c fs)) st Q X ↔ Q c st := Iff.rfl
@[simp] theorem wp_bi {b : Bi} {es : List E} : Wp (evE P (.bi b es) ρ) st Q X ↔ Wp (evEs P es ρ) st (fun xs s => Wp (biD b xs) s Q X) X := by rw [evE]; simp
@[simp] theorem wp_fld {c k : Nat} {o : E} : Wp (evE P (.fld c o k) ρ) st Q X ↔ Wp (evE P o ρ) st (fun x s => keepB x.1 = true ∧ Wp (fldD c x.2 k) s Q X) X := by
  rw [evE]; simp only [wp_bind, keep, wp_ifno, wp_pure]
@[simp] theorem wp_toldE {h : Nat} {e : E} : Wp (evE P (.told h e) ρ) st Q X ↔ Wp (evE P e ρ) st (fun x s => keepB x.1 = true ∧ Q (.fz, x.2) s) fun c p s => ∃ d, P.hd h c = some d ∧ Q (.fz, d) s := by
  rw [evE]; simp only [wp_bind, wp_told, keep, wp_ifno, wp_pure]
@[simp] theorem wp_nil {Q : List KD → Sto → Prop} : Wp (evEs P [] ρ) st Q X ↔ Q [] st := by rw [evEs]; rfl
@[simp] theorem wp_cons {e : E} {es : List E} {Q : List KD → Sto → Prop} : Wp (evEs P (e :: es) ρ) st Q X ↔ Wp (evE P e ρ) st (fun x s => Wp (evEs P es ρ) s (fun xs s => Q (x :: xs) s) X) X := by rw [evEs]; simp
@[simp] theorem wp_evT_nil {Q : Bool → Sto → Prop} : Wp (evT P [] ρ) st Q X ↔ Q true st := by rw [evT]; rfl
@[simp] theorem wp_evT_cons {e : E} {es : List E} {Q : Bool → Sto → Prop} : Wp (evT P (e :: es) ρ) st Q X ↔ Wp (evE P e ρ) st (fun x s => Wp (ofO (boolO x.2)) s (fun b s => (b = true → Wp (evT P es ρ) s Q X) ∧ (b = false → Q false s)) X) X := by
  rw [evT]; simp only [wp_bind, wp_ite, wp_pure, Bool.not_eq_true]
@[simp] theorem wp_lc {elt : E} {tg : Tg} {ik : Ik} {src ifs : List E} : Wp (evE P (.lc elt tg ik src ifs) ρ) st Q X ↔ Wp (evEs P src ρ) st (fun xs s => Wp (itD ik xs) s (fun ds s => Wp (foldM (fun acc d => calm (lcM P elt tg ifs ρ acc d)) ds []) s (fun ys s => Q (.fr (lvE elt + 1), .lst ys) s) X) X) X := by
  rw [evE_lc]; unfold evI; simp
@[simp] theorem wp_gen {g : Gk} {elt : E} {tg : Tg} {ik : Ik} {src ifs : List E} : Wp (evE P (.gen g elt tg ik src ifs) ρ) st Q X ↔ Wp (evEs P src ρ) st (fun xs s => Wp (itD ik xs) s (fun ds s => Wp (foldM (genF P g elt tg ifs ρ) ds (gen0 g)) s (fun d s => Q (.fz, d) s) X) X) X := by
  rw [evE_gen]; unfold evI; simp
/-! comprehensions, turn by turn -/
theorem wp_putL {l : Nat} {x : KD} {Q : D → Sto → Prop} : Wp (putL l x) st Q X ↔ putLB l x = true ∧ Q x.2 st := wp_ifno
theorem wp_lcM {elt : E} {tg : Tg} {ifs : List E} {acc : List D} {d : D} {Q : List D → Sto → Prop} : Wp (lcM P elt tg ifs ρ acc d) st Q X ↔
    Wp (ofO (bindT tg d (wipeE ρ (tgV tg)))) st (fun ρ1 s => Wp (evT P ifs ρ1) s (fun t s => (t = true → Wp (evE P elt ρ1) s (fun y s => putLB (lvE elt) y = true ∧ Q (acc ++ [y.2]) s) X) ∧ (t = false → Q acc s)) X) X := by
  unfold lcM
  simp only [wp_bind, wp_ite, wp_pure, Bool.not_eq_true, wp_putL]
theorem wp_genM {g : Gk} {elt : E} {tg : Tg} {ifs : List E} {acc d : D} {Q : D → Sto → Prop} : Wp (genM P g elt tg ifs ρ acc d) st Q X ↔
    Wp (ofO (bindT tg d (wipeE ρ (tgV tg)))) st (fun ρ1 s => Wp (evT P ifs ρ1) s (fun t s => (t = true → Wp (evE P elt ρ1) s (fun y s => Wp (ofO (genStep g acc y.2)) s Q X) X) ∧ (t = false → Q acc s)) X) X := by
  unfold genM
  simp only [wp_bind, wp_ite, wp_pure, Bool.not_eq_true]
/-! operators -/
variable {k k' k'' : Kd} {i j : Int}
@[simp] theorem wp_add : Wp (binD .Add (k, .int i) (k', .int j)) st Q X ↔ Q (.fz, .int (i + j)) st := Iff.rfl
@[simp] theorem wp_sub : Wp (binD .Sub (k, .int i) (k', .int j)) st Q X ↔ Q (.fz, .int (i - j)) st := Iff.rfl
@[simp] theorem wp_mul : Wp (binD .Mult (k, .int i) (k', .int j)) st Q X ↔ mulOk i j = true ∧ Q (.fz, .int (i * j)) st := wp_ifno
@[simp] theorem wp_fdiv : Wp (binD .FloorDiv (k, .int i) (k', .int j)) st Q X ↔ divOk j = true ∧ Q (.fz, .int (i / j)) st := wp_ifno
@[simp] theorem wp_mod : Wp (binD .Mod (k, .int i) (k', .int j)) st Q X ↔ 0 < j ∧ Q (.fz, .int (i % j)) st := wp_ifno
@[simp] theorem wp_pow : Wp (binD .Pow (k, .int i) (k', .int j)) st Q X ↔ powOk i j = true ∧ Q (.fz, .int (i ^ j.toNat)) st := wp_ifno
@[simp] theorem wp_addL {as bs : List D} : Wp (binD .Add (k, .lst as) (k', .lst bs)) st Q X ↔ (viewB k && viewB k' && szOk (as.length + bs.length)) = true ∧ Q (.fr 1, .lst (as ++ bs)) st := wp_ifno
@[simp] theorem wp_addT {as bs : List D} : Wp (binD .Add (k, .tup as) (k', .tup bs)) st Q X ↔ szOk (as.length + bs.length) = true ∧ Q (.fz, .tup (as ++ bs)) st := wp_ifno
@[simp] theorem wp_mulL {as : List D} : Wp (binD .Mult (k, .lst as) (k', .int j)) st Q X ↔ (viewB k && decide (j < 2 ^ 62 ∧ -(2 ^ 62) < j) && szOk (as.length * j.toNat)) = true ∧ Q (.fr 1, .lst (List.replicate j.toNat as).flatten) st := wp_ifno
section
variable {Q : Bool → Sto → Prop}
@[simp] theorem wp_lt : Wp (cmpD .Lt (.int i) (.int j)) st Q X ↔ Q (decide (i < j)) st := Iff.rfl
@[simp] theorem wp_le : Wp (cmpD .LtE (.int i) (.int j)) st Q X ↔ Q (decide (i ≤ j)) st := Iff.rfl
@[simp] theorem wp_gt : Wp (cmpD .Gt (.int i) (.int j)) st Q X ↔ Q (decide (j < i)) st := Iff.rfl
@[simp] theorem wp_ge : Wp (cmpD .GtE (.int i) (.int j)) st Q X ↔ Q (decide (j ≤ i)) st := Iff.rfl
/-- == of two data, dicts too -/
def eqC (a b : D) : Option Bool := match a with
  | .dic as => eqDic (.dic as) b
  | _ => eqD a b
@[simp] theorem eqC_non {b : D} : eqC .non b = eqD .non b := rfl
@[simp] theorem eqC_bl {x : Bool} {b : D} : eqC (.bl x) b = eqD (.bl x) b := rfl
@[simp] theorem eqC_int {x : Int} {b : D} : eqC (.int x) b = eqD (.int x) b := rfl
@[simp] theorem eqC_str {x : Str} {b : D} : eqC (.str x) b = eqD (.str x) b := rfl
@[simp] theorem eqC_tup {x : List D} {b : D} : eqC (.tup x) b = eqD (.tup x) b := rfl
@[simp] theorem eqC_lst {x : List D} {b : D} : eqC (.lst x) b = eqD (.lst x) b := rfl
@[simp] theorem eqC_ins {c : Nat} {x : List D} {b : D} : eqC (.ins c x) b = eqD (.ins c x) b := rfl
theorem cmpD_Eq {a b : D} : cmpD .Eq a b = ofO (eqC a b) := by cases a <;> rfl
theorem cmpD_Ne {a b : D} : cmpD .NotEq a b = ofO (eqC a b) >>= fun c => pure (!c) := by cases a <;> rfl
@[simp] theorem wp_eqC {a b : D} : Wp (cmpD .Eq a b) st Q X ↔ Wp (ofO (eqC a b)) st Q X := by rw [cmpD_Eq]
@[simp] theorem wp_neC {a b : D} : Wp (cmpD .NotEq a b) st Q X ↔ Wp (ofO (eqC a b)) st (fun c s => Q (!c) s) X := by
  rw [cmpD_Ne]
  simp
end
end
/-! ### equality -/
theorem eqv_int (i j : Int) : PyData.eqv (.int i) (.int j) = decide (i = j) := by
  simp only [PyData.eqv]
  by_cases h : i = j
  · subst h; simp
  · simp [h]
@[simp] theorem eqD_int (i j : Int) : eqD (.int i) (.int j) = some (decide (i = j)) := by
  unfold eqD
  rw [toP, toP]
  have h1 : SeqAt.shaped (.int i) = true := by rfl
  have h2 : SeqAt.shaped (.int j) = true := by rfl
  simp only [h1, h2, eqv_int, Bool.and_self, if_true]
/-- equal data -/
theorem eqD_same {d : D} {p : PyData} (h : toP d = some p) (hs : SeqAt.shaped p = true) (hr : PyData.eqv p p = true) : eqD d d = some true := by
  unfold eqD
  rw [h]
  simp only [hs, hr, Bool.and_self, if_true]
/-! ### statements -/
section
variable {P : Pr} {ρ : Env} {st : Sto} {X : Nat → D → Sto → Prop} {Q : Fl × Env → Sto → Prop}
@[simp] theorem wp_ss_nil : Wp (evSs P [] ρ) st Q X ↔ Q (.nx, ρ) st := by rw [evSs]; rfl
/-- .. and then the rest -/
def nxt (P : Pr) (ss : List S) (Q : Fl × Env → Sto → Prop) (X : Nat → D → Sto → Prop) (r : Fl × Env) (s : Sto) : Prop := match r.1 with
  | .nx => Wp (evSs P ss r.2) s Q X
  | f => Q (f, r.2) s
@[simp] theorem nxt_nx {ss : List S} {s : Sto} : nxt P ss Q X (.nx, ρ) s ↔ Wp (evSs P ss ρ) s Q X := Iff.rfl
@[simp] theorem nxt_rt {ss : List S} {s : Sto} {d : D} : nxt P ss Q X (.rt d, ρ) s ↔ Q (.rt d, ρ) s := Iff.rfl
@[simp] theorem nxt_ct {ss : List S} {s : Sto} : nxt P ss Q X (.ct, ρ) s ↔ Q (.ct, ρ) s := Iff.rfl
@[simp] theorem nxt_bk {ss : List S} {s : Sto} : nxt P ss Q X (.bk, ρ) s ↔ Q (.bk, ρ) s := Iff.rfl
@[simp] theorem wp_ss_cons {s : S} {ss : List S} : Wp (evSs P (s :: ss) ρ) st Q X ↔ Wp (evS P s ρ) st (nxt P ss Q X) X := by
  rw [evSs, wp_bind]
  constructor <;> intro h <;> refine h.mono1 fun r s h => ?_
  all_goals
    obtain ⟨f, ρ1⟩ := r
    cases f <;> exact h
@[simp] theorem wp_pass : Wp (evS P .pass ρ) st Q X ↔ Q (.nx, ρ) st := by rw [evS]; rfl
@[simp] theorem wp_brk : Wp (evS P .brk ρ) st Q X ↔ Q (.bk, ρ) st := by rw [evS]; rfl
@[simp] theorem wp_cnt : Wp (evS P .cnt ρ) st Q X ↔ Q (.ct, ρ) st := by rw [evS]; rfl
@[simp] theorem wp_retN : Wp (evS P .retN ρ) st Q X ↔ Q (.rt .non, ρ) st := by rw [evS]; rfl
@[simp] theorem wp_ret {e : E} : Wp (evS P (.ret e) ρ) st Q X ↔ Wp (evE P e ρ) st (fun x s => keepB x.1 = true ∧ Q (.rt x.2, ρ) s) X := by
  rw [evS]; simp only [wp_bind, keep, wp_ifno, wp_pure]
@[simp] theorem wp_exp {e : E} : Wp (evS P (.exp e) ρ) st Q X ↔ Wp (evE P e ρ) st (fun _ s => Q (.nx, ρ) s) X := by rw [evS]; simp
@[simp] theorem wp_set {i lv : Nat} {e : E} : Wp (evS P (.set i lv e) ρ) st Q X ↔ Wp (evE P e ρ) st (fun x s => Wp (ofO (slotL lv x.1)) s (fun l s => Q (.nx, ρ.set i (some (l, x.2))) s) X) X := by
  rw [evS]; simp only [wp_bind, setM, wp_pure]
@[simp] theorem wp_sett {t : Tg} {e : E} : Wp (evS P (.sett t e) ρ) st Q X ↔ Wp (evE P e ρ) st (fun x s => keepB x.1 = true ∧ Wp (ofO (bindT t x.2 ρ)) s (fun ρ1 s => Q (.nx, ρ1) s) X) X := by
  rw [evS]; simp only [wp_bind, keep, wp_ifno, wp_pure]
@[simp] theorem wp_par {i li j lj : Nat} {a b : E} : Wp (evS P (.par i li j lj a b) ρ) st Q X ↔ Wp (evE P a ρ) st (fun x s => Wp (evE P b ρ) s (fun y s => Wp (ofO (slotL li x.1)) s (fun l s => Wp (ofO (slotL lj y.1)) s (fun l' s => Q (.nx, (ρ.set i (some (l, x.2))).set j (some (l', y.2))) s) X) X) X) X := by
  rw [evS]; simp only [wp_bind, setM, wp_pure]
@[simp] theorem wp_par3 {i li j lj k lk : Nat} {a b c : E} : Wp (evS P (.par3 i li j lj k lk a b c) ρ) st Q X ↔ Wp (evE P a ρ) st (fun x s => Wp (evE P b ρ) s (fun y s => Wp (evE P c ρ) s (fun z s => Wp (ofO (slotL li x.1)) s (fun l s => Wp (ofO (slotL lj y.1)) s (fun l' s => Wp (ofO (slotL lk z.1)) s (fun l'' s => Q (.nx, ((ρ.set i (some (l, x.2))).set j (some (l', y.2))).set k (some (l'', z.2))) s) X) X) X) X) X) X := by
  rw [evS]; simp only [wp_bind, setM, wp_pure]
@[simp] theorem slotL_fz (lv : Nat) : slotL lv .fz = some 0 := rfl
@[simp] theorem slotL_an (lv : Nat) : slotL lv .an = some lv := rfl
@[simp] theorem slotL_fr0 (l : Nat) : slotL 0 (.fr l) = some 0 := rfl
@[simp] theorem slotL_fr (l : Nat) : slotL (l + 1) (.fr (l + 1)) = some (l + 1) := by simp [slotL]
/-- a name's slot, whole -/
def getS (ρ : Env) (i : Nat) (Q : Nat × D → Prop) : Prop := match ρ[i]? with
  | some (some x) => Q x
  | _ => False
@[simp] theorem getS_cons {x : Option (Nat × D)} {ρ : Env} {i : Nat} {Q : Nat × D → Prop} : getS (x :: ρ) (i + 1) Q ↔ getS ρ i Q := by simp [getS]
@[simp] theorem getS_zero {x : Nat × D} {ρ : Env} {Q : Nat × D → Prop} : getS (some x :: ρ) 0 Q ↔ Q x := by simp [getS]
@[simp] theorem wp_slotD {i : Nat} {Q : Nat × D → Sto → Prop} : Wp (slotD ρ i) st Q X ↔ getS ρ i fun x => Q x st := by
  unfold slotD getS
  cases ρ[i]? with
  | none => rfl
  | some o => cases o with
    | none => rfl
    | some p => rfl
@[simp] theorem wp_aug {i : Nat} {o : Operator} {e : E} : Wp (evS P (.aug i o e) ρ) st Q X ↔ getS ρ i fun x => Wp (evE P e ρ) st (fun y s => Wp (augM o x.2 y.2) s (fun z s => Q (.nx, ρ.set i (some (0, z))) s) X) X := by
  rw [evS]; simp only [wp_bind, wp_slotD, wp_pure]
@[simp] theorem wp_augA {i j : Int} {Q : D → Sto → Prop} : Wp (augM .Add (.int i) (.int j)) st Q X ↔ Q (.int (i + j)) st := Iff.rfl
@[simp] theorem wp_augS {i j : Int} {Q : D → Sto → Prop} : Wp (augM .Sub (.int i) (.int j)) st Q X ↔ Q (.int (i - j)) st := Iff.rfl
@[simp] theorem wp_app {i : Nat} {e : E} : Wp (evS P (.app i e) ρ) st Q X ↔ getS ρ i fun x => Wp (ofO (ownL x)) st (fun q s => Wp (evE P e ρ) s (fun y s => putLB q.1 y = true ∧ szOk (q.2.length + 1) = true ∧ Q (.nx, ρ.set i (some (q.1 + 1, .lst (q.2 ++ [y.2])))) s) X) X := by
  rw [evS]; simp only [wp_bind, wp_slotD, wp_pure, appM, putL, wp_ifno]
@[simp] theorem ownL_lst (l : Nat) (ds : List D) : ownL (l + 1, .lst ds) = some (l, ds) := rfl
@[simp] theorem wp_iteS {c : E} {a b : List S} : Wp (evS P (.ite c a b) ρ) st Q X ↔ Wp (evE P c ρ) st (fun x s => Wp (ofO (boolO x.2)) s (fun t s => (t = true → Wp (evSs P a ρ) s Q X) ∧ (t = false → Wp (evSs P b ρ) s Q X)) X) X := by
  rw [evS]; simp only [wp_bind, wp_evB, wp_ite, Bool.not_eq_true]
@[simp] theorem wp_for {t : Tg} {ik : Ik} {src : List E} {b : List S} : Wp (evS P (.for_ t ik src b) ρ) st Q X ↔ Wp (evEs P src ρ) st (fun xs s => forB xs = true ∧ Wp (itD ik xs) s (fun ds s => Wp (forM' (fun d ρ => ofO (bindT t d ρ) >>= fun ρ1 => evSs P b ρ1) ds ρ) s Q X) X) X := by
  rw [evS_for]; unfold evIS; simp only [wp_bind, wp_ifno]
@[simp] theorem wp_whl {n : Nat} {c : E} {b : List S} : Wp (evS P (.whl n c b) ρ) st Q X ↔ Wp (whileM (evB P c) (evSs P b) n ρ) st Q X := by rw [evS]
@[simp] theorem wp_raiseS {c : Nat} {es : List E} : Wp (evS P (.raise c es) ρ) st Q X ↔ Wp (evEs P es ρ) st (fun _ s => X c .non s) X := by rw [evS]; simp only [wp_bind, wp_raise]
@[simp] theorem wp_setf {c k : Nat} {o e : E} : Wp (evS P (.setf c o k e) ρ) st Q X ↔ Wp (evE P e ρ) st (fun x s => Wp (evE P o ρ) s (fun y s => putB x = true ∧ keepB y.1 = true ∧ Wp (setfM c y.2 k x.2) s (fun _ s => Q (.nx, ρ) s) X) X) X := by
  rw [evS]; simp only [wp_bind, put, keep, wp_ifno, wp_pure]
@[simp] theorem wp_seti {o i e : E} : Wp (evS P (.seti o i e) ρ) st Q X ↔ Wp (evE P e ρ) st (fun x s => Wp (evE P o ρ) s (fun y s => Wp (evE P i ρ) s (fun z s => putB x = true ∧ Wp (setiM y.2 z.2 x.2) s (fun _ s => Q (.nx, ρ) s) X) X) X) X := by
  rw [evS]; simp only [wp_bind, put, wp_ifno, wp_pure]
/-- a def -/
def retQ (Q : D → Sto → Prop) (r : Fl × Env) (s : Sto) : Prop := match r.1 with
  | .nx => Q .non s
  | .rt d => Q d s
  | _ => False
@[simp] theorem retQ_nx {Q : D → Sto → Prop} {s : Sto} : retQ Q (.nx, ρ) s ↔ Q .non s := Iff.rfl
@[simp] theorem retQ_rt {Q : D → Sto → Prop} {s : Sto} {d : D} : retQ Q (.rt d, ρ) s ↔ Q d s := Iff.rfl
theorem wp_runF {n : Nat} {b : List S} {ds : List D} {Q : D → Sto → Prop} : Wp (runF P n b ds) st Q X ↔ Wp (evSs P b (ds.map (fun d => some (0, d)) ++ List.replicate (n - ds.length) none)) st (retQ Q) X := by
  unfold runF
  rw [wp_bind]
  constructor <;> intro h <;> refine h.mono1 fun r s h => ?_
  all_goals
    obtain ⟨f, ρ1⟩ := r
    cases f <;> exact h
end
/-! ### held, kept -/
@[simp] theorem keepB_fz : keepB .fz = true := rfl
@[simp] theorem keepB_an : keepB .an = true := rfl
@[simp] theorem keepB_fr (l : Nat) : keepB (.fr l) = true := rfl
@[simp] theorem viewB_fz : viewB .fz = true := rfl
@[simp] theorem viewB_an : viewB .an = true := rfl
@[simp] theorem viewB_fr (l : Nat) : viewB (.fr l) = true := rfl
@[simp] theorem viewB_bo1 : viewB (.bo 1) = true := rfl
@[simp] theorem isR_int (i : Int) : isR (.int i) = false := rfl
@[simp] theorem isR_bl (b : Bool) : isR (.bl b) = false := rfl
@[simp] theorem isR_str (x : Str) : isR (.str x) = false := rfl
@[simp] theorem isR_non : isR .non = false := rfl
@[simp] theorem isR_tup (ds : List D) : isR (.tup ds) = false := rfl
@[simp] theorem isR_lst (ds : List D) : isR (.lst ds) = false := rfl
@[simp] theorem isR_ins (c : Nat) (ds : List D) : isR (.ins c ds) = false := rfl
@[simp] theorem isC_int (i : Int) : isC (.int i) = false := rfl
@[simp] theorem isC_tup (ds : List D) : isC (.tup ds) = false := rfl
@[simp] theorem isC_lst (ds : List D) : isC (.lst ds) = true := rfl
@[simp] theorem isC_str (x : Str) : isC (.str x) = false := rfl
@[simp] theorem isC_bl (x : Bool) : isC (.bl x) = false := rfl
@[simp] theorem isC_non : isC .non = false := rfl
end PV

/-! part PV34 -/
/-! PV34: equal data. -/
namespace PV
open PySem L2

/-- data that are compared: to a depth -/
def gd : Nat → D → Bool
  | _, .non => true
  | _, .bl _ => true
  | _, .int _ => true
  | _, .str x => PyData.strOk x
  | n + 1, .tup ds => ds.all (gd n)
  | n + 1, .lst ds => ds.all (gd n)
  | _, _ => false
/-- .. without truth values -/
def gn : Nat → D → Bool
  | _, .non => true
  | _, .int _ => true
  | _, .str x => PyData.strOk x
  | n + 1, .tup ds => ds.all (gn n)
  | n + 1, .lst ds => ds.all (gn n)
  | _, _ => false
theorem gds_toPs {n : Nat} (ih : ∀ d, gd n d = true → ∃ p, toP d = some p ∧ p.canLay0 = true ∧ p.depth ≤ n ∧ PyData.eqv p p = true) : ∀ ds : List D, ds.all (gd n) = true → ∃ ps, toPs ds = some ps ∧ PyData.canLayAll0 ps = true ∧ PyData.depthAll ps ≤ n ∧ PyData.eqvAll ps ps = true
  | [], _ => ⟨[], by rw [toPs], by rw [PyData.canLayAll0], by simp [PyData.depthAll], by rw [PyData.eqvAll]⟩
  | d :: ds, h => by
    simp only [List.all_cons, Bool.and_eq_true] at h
    obtain ⟨p, e1, e2, e3, e4⟩ := ih d h.1
    obtain ⟨ps, f1, f2, f3, f4⟩ := gds_toPs ih ds h.2
    refine ⟨p :: ps, by rw [toPs, e1, f1], by rw [PyData.canLayAll0, e2, f2]; rfl, ?_, by rw [PyData.eqvAll, e4, f4]; rfl⟩
    rw [PyData.depthAll]
    omega
theorem gd_toP : ∀ {n : Nat} (d : D), gd n d = true → ∃ p, toP d = some p ∧ p.canLay0 = true ∧ p.depth ≤ n ∧ PyData.eqv p p = true
  | n, .non, _ => ⟨_, by rw [toP], by rw [PyData.canLay0], by simp [PyData.depth], by rw [PyData.eqv]⟩
  | n, .bl b, _ => ⟨_, by rw [toP], by rw [PyData.canLay0], by simp [PyData.depth], by rw [PyData.eqv]; simp⟩
  | n, .int b, _ => ⟨_, by rw [toP], by rw [PyData.canLay0], by simp [PyData.depth], by rw [PyData.eqv]; simp⟩
  | n, .str x, h => ⟨_, by rw [toP], by rw [PyData.canLay0]; simpa [gd] using h, by simp [PyData.depth], by rw [PyData.eqv]; simp⟩
  | n + 1, .tup ds, h => by
    obtain ⟨ps, f1, f2, f3, f4⟩ := gds_toPs (fun d h => gd_toP d h) ds (by simpa [gd] using h)
    exact ⟨.tuple ps, by rw [toP, f1]; rfl, by rw [PyData.canLay0]; exact f2, by rw [PyData.depth]; omega, by rw [PyData.eqv]; exact f4⟩
  | n + 1, .lst ds, h => by
    obtain ⟨ps, f1, f2, f3, f4⟩ := gds_toPs (fun d h => gd_toP d h) ds (by simpa [gd] using h)
    exact ⟨.list ps, by rw [toP, f1]; rfl, by rw [PyData.canLay0]; exact f2, by rw [PyData.depth]; omega, by rw [PyData.eqv]; exact f4⟩
  | 0, .tup ds, h => by simp [gd] at h
  | 0, .lst ds, h => by simp [gd] at h
  | _, .dic _, h => by simp [gd] at h
  | _, .dit _, h => by simp [gd] at h
  | _, .ins _ _, h => by simp [gd] at h
  | _, .ref _, h => by simp [gd] at h
  | _, .tx _, h => by simp [gd] at h
theorem shaped_of {n : Nat} {p : PyData} (h : p.canLay0 = true) (hd : p.depth ≤ n) (hn : n ≤ 64) : SeqAt.shaped p = true := by
  unfold SeqAt.shaped
  rw [h]
  simp only [Bool.true_and, decide_eq_true_eq]
  omega
theorem eqD_self {n : Nat} {a : D} (h : gd n a = true) (hn : n ≤ 64) : eqD a a = some true := by
  obtain ⟨p, e1, e2, e3, e4⟩ := gd_toP a h
  exact eqD_same e1 (shaped_of e2 e3 hn) e4
theorem gn_gd : ∀ {n : Nat} (d : D), gn n d = true → gd n d = true
  | _, .non, _ => by simp [gd]
  | _, .int _, _ => by simp [gd]
  | _, .str x, h => by simpa [gd, gn] using h
  | n + 1, .tup ds, h => by
    simp only [gn, List.all_eq_true] at h
    simp only [gd, List.all_eq_true]
    exact fun d hd => gn_gd d (h d hd)
  | n + 1, .lst ds, h => by
    simp only [gn, List.all_eq_true] at h
    simp only [gd, List.all_eq_true]
    exact fun d hd => gn_gd d (h d hd)
  | 0, .tup ds, h => by simp [gn] at h
  | 0, .lst ds, h => by simp [gn] at h
  | _, .bl _, h => by simp [gn] at h
  | _, .dic _, h => by simp [gn] at h
  | _, .dit _, h => by simp [gn] at h
  | _, .ins _ _, h => by simp [gn] at h
  | _, .ref _, h => by simp [gn] at h
  | _, .tx _, h => by simp [gn] at h
theorem gn_atom {n m : Nat} (a b : D) (p q : PyData) (ha : gn n a = true) (hb : gn m b = true) (h : toP a = some p) (k : toP b = some q) (e : PyData.eqv p q = true) (h1 : ∀ ds, a ≠ .tup ds) (h2 : ∀ ds, a ≠ .lst ds) : a = b := by
  cases a with
  | tup as => exact absurd rfl (h1 as)
  | lst as => exact absurd rfl (h2 as)
  | bl _ => simp [gn] at ha
  | dic _ => simp [gn] at ha
  | dit _ => simp [gn] at ha
  | ins _ _ => simp [gn] at ha
  | ref _ => simp [gn] at ha
  | tx _ => simp [gn] at ha
  | non =>
    simp [toP] at h
    subst h
    cases b with
    | tup bs => obtain ⟨qs, k1, rfl⟩ := toP_tup k; simp [PyData.eqv] at e
    | lst bs => obtain ⟨qs, k1, rfl⟩ := toP_lst k; simp [PyData.eqv] at e
    | non => rfl
    | bl _ => simp [gn] at hb
    | _ => simp [toP] at k <;> (try subst k) <;> simp [PyData.eqv] at e
  | int i =>
    simp [toP] at h
    subst h
    cases b with
    | tup bs => obtain ⟨qs, k1, rfl⟩ := toP_tup k; simp [PyData.eqv] at e
    | lst bs => obtain ⟨qs, k1, rfl⟩ := toP_lst k; simp [PyData.eqv] at e
    | bl _ => simp [gn] at hb
    | int j => simp [toP] at k; subst k; simp [PyData.eqv] at e; rw [e]
    | _ => simp [toP] at k <;> (try subst k) <;> simp [PyData.eqv] at e
  | str i =>
    simp [toP] at h
    subst h
    cases b with
    | tup bs => obtain ⟨qs, k1, rfl⟩ := toP_tup k; simp [PyData.eqv] at e
    | lst bs => obtain ⟨qs, k1, rfl⟩ := toP_lst k; simp [PyData.eqv] at e
    | bl _ => simp [gn] at hb
    | str j => simp [toP] at k; subst k; simp [PyData.eqv] at e; rw [e]
    | _ => simp [toP] at k <;> (try subst k) <;> simp [PyData.eqv] at e
theorem gn_inj {n m : Nat} : ∀ (a b : D) (p q : PyData), gn n a = true → gn m b = true → toP a = some p → toP b = some q → PyData.eqv p q = true → a = b := by
  induction n generalizing m with
  | zero =>
    intro a b p q ha hb h k e
    exact gn_atom a b p q ha hb h k e (fun ds z => by subst z; simp [gn] at ha) (fun ds z => by subst z; simp [gn] at ha)
  | succ n ih =>
    have all : ∀ {m : Nat} (as bs : List D) (ps qs : List PyData), as.all (gn n) = true → bs.all (gn m) = true → toPs as = some ps → toPs bs = some qs → PyData.eqvAll ps qs = true → as = bs := by
      intro m as
      induction as with
      | nil =>
        intro bs ps qs _ _ h k e
        rw [toPs] at h; cases h
        cases bs with
        | nil => rfl
        | cons b bs =>
          obtain ⟨y, ys, _, _, rfl⟩ := toPs_cons k
          simp [PyData.eqvAll] at e
      | cons a as ih2 =>
        intro bs ps qs ha hb h k e
        obtain ⟨x, xs, h1, h2, rfl⟩ := toPs_cons h
        cases bs with
        | nil =>
          rw [toPs] at k; cases k
          simp [PyData.eqvAll] at e
        | cons b bs =>
          obtain ⟨y, ys, k1, k2, rfl⟩ := toPs_cons k
          simp only [List.all_cons, Bool.and_eq_true] at ha hb
          simp only [PyData.eqvAll, Bool.and_eq_true] at e
          rw [ih a b x y ha.1 hb.1 h1 k1 e.1, ih2 bs xs ys ha.2 hb.2 h2 k2 e.2]
    intro a b p q ha hb h k e
    cases a with
    | tup as =>
      obtain ⟨ps, h1, rfl⟩ := toP_tup h
      cases b with
      | tup bs =>
        obtain ⟨qs, k1, rfl⟩ := toP_tup k
        cases m with
        | zero => simp [gn] at hb
        | succ m =>
          simp only [gn] at ha hb
          rw [PyData.eqv] at e
          rw [all as bs ps qs ha hb h1 k1 e]
      | lst bs => obtain ⟨qs, k1, rfl⟩ := toP_lst k; simp [PyData.eqv] at e
      | _ => simp [toP] at k <;> (try subst k) <;> simp [PyData.eqv] at e
    | lst as =>
      obtain ⟨ps, h1, rfl⟩ := toP_lst h
      cases b with
      | lst bs =>
        obtain ⟨qs, k1, rfl⟩ := toP_lst k
        cases m with
        | zero => simp [gn] at hb
        | succ m =>
          simp only [gn] at ha hb
          rw [PyData.eqv] at e
          rw [all as bs ps qs ha hb h1 k1 e]
      | tup bs => obtain ⟨qs, k1, rfl⟩ := toP_tup k; simp [PyData.eqv] at e
      | _ => simp [toP] at k <;> (try subst k) <;> simp [PyData.eqv] at e
    | _ => exact gn_atom _ b p q ha hb h k e (fun ds z => nomatch z) (fun ds z => nomatch z)
theorem eqD_ne {n m : Nat} {a b : D} (ha : gn n a = true) (hb : gn m b = true) (hn : n ≤ 64) (hm : m ≤ 64) (h : a ≠ b) : eqD a b = some false := by
  obtain ⟨p, e1, e2, e3, e4⟩ := gd_toP a (gn_gd a ha)
  obtain ⟨q, f1, f2, f3, f4⟩ := gd_toP b (gn_gd b hb)
  unfold eqD
  rw [e1, f1]
  simp only [shaped_of e2 e3 hn, shaped_of f2 f3 hm, Bool.and_self, if_true]
  cases c : PyData.eqv p q with
  | false => rfl
  | true => exact absurd (gn_inj a b p q ha hb e1 f1 c) h
end PV

/-! part PV33 -/
/-! PV33: a law's skeleton: its rounds, its loop. -/
namespace PV
open PySem PySem.Spec PyProof.Rows L2 LamX NdefX

/-- the dice as the law's loop gets them: the one item of a list -/
def spRounds (G : Gx) : Sp := fun vs H Q _ => ∃ (a : Addr) (ns : List Int), vs = [V.ref a, .int 1] ∧ SqL G.K H a (ns.map V.int) ∧ TabsN G.T H ∧
  ∀ v H', (∃ (L d : Addr) (c0 c1 c2 : Int), v = V.ref L ∧ H' L = some (.lst [.ref d]) ∧ H' d = some (.lst [.int c0, .int c1, .int c2]) ∧ TabsN G.T H') → Q v H'
def spLaw (G : Gx) : Sp := fun vs H Q _ => ∃ (a : Addr) (ns : List Int), vs = [V.ref a] ∧ SqL G.K H a (ns.map V.int) ∧ TabsN G.T H ∧ ∀ H', Q (.bl true) H'
/-- a store of the dice alone -/
abbrev dst (c0 c1 c2 : Int) : Sto := [.nl [.int c0, .int c1, .int c2]]
section
variable {prog : Program} {w : World} {K : PySem.W.Frag} {mg : Str → Option Value} {base : Heap} {G : Gx} {Pr : Pr} {S : List S}
theorem sl_nones {w : Wd} {H : Hp} : ∀ n : Nat, SL G w H (List.replicate n none) (List.replicate n none) (List.replicate n [])
  | 0 => .nil
  | n + 1 => .no (sl_nones n)
theorem law_fn {N : List Str} {scope : Scope} {params : Arguments} {fL fR : Addr} {fdL fdR : FuncData} {p : He.Defn} {pb : List Stmt} {q1 q2 q3 q4 q5 q6 q7 q8 : Pos} {j j2 kL kR : Nat}
    (hGK : G.K = K) (F : FunD K "law" "law" params [.For (.Name "dice" q1) (.Call (.Name "_law_rounds" q2) [.Name "script" q3, .Constant (.int 1) j q4] [] q5) pb [] q6, .Return (some (.Constant (.bool true) j2 q7)) q8] scope [] [] fL fdL) (hp : fL = He.fAd K p)
    (Sc : FnScope N ["script"] scope) (h0 : N[0]? = some ("script" : Str)) (h1 : N[1]? = some ("dice" : Str)) (hlen : 2 ≤ N.length) (vs : Vis scope "script") (ld : Loc scope "dice") (gr : scope.names.lookup ("_law_rounds" : Str) = some .globalImplicit)
    (mR : mg "_law_rounds" = some (.ref fR)) (kR' : PySem.W.keepIn K (.ref fR) = true) (bR : L2.Binds K fdR ["script", "most"] []) (FR : FnOk prog w K mg base (L2.CX prog w) kR fR fdR ["script", "most"] (spRounds G)) (hk : kR ≤ kL)
    (D : ∀ (A : Around) (outer : List PySem.Env) (s : Shared) (H : Hp) (E : XK), Room kL (A.deeper (envOfC "law" scope s.heap.objs.size fL (.ref (He.codeOf K p)))) → DSs (cxOf (L2.CX prog w) prog w K mg base N "law" scope fL (.ref (He.codeOf K p)) A outer s H E) G Pr pb S)
    (M : ∀ c0 c1 c2, ∃ f ρ' st', evSs Pr S (none :: some (0, .ref 0) :: List.replicate (N.length - 2) none) (dst c0 c1 c2) = .ok (f, ρ') st' ∧ (f = .nx ∨ f = .ct)) :
    FnOk prog w K mg base (L2.CX prog w) (kL + 1) fL fdL ["script"] (spLaw G) := by
  obtain ⟨oc, od, dV, kV, doc, pm, an, cdv, ct, osl, rfl, lk, hcd, _, _⟩ := F.ex
  obtain ⟨c, rfl⟩ := He.codeIn_ref hcd
  subst hp
  have ec : He.codeOf K p = c := He.codeOf_eq lk rfl
  rw [ec] at D
  subst hGK
  refine fn_of lk hcd Sc (fun vs H Q E h => by obtain ⟨a, ns, rfl, _⟩ := h; rfl) fun A outer s H vs Q E hr hsp => ?_
  obtain ⟨a, ns, rfl, hS, hT, hQ⟩ := hsp
  have DD := D A outer s H E hr
  generalize hX : cxOf (L2.CX prog w) prog w G.K mg base N "law" scope (He.fAd G.K p) (.ref c) A outer s H E = X at DD ⊢
  have eN : X.N = N := by rw [← hX] <;> rfl
  have eS : X.env.scope = scope := by rw [← hX] <;> rfl
  have eK : X.K = G.K := by rw [← hX] <;> rfl
  have nd : X.N.Nodup := by rw [eN]; exact Sc.nd
  have calm : X.calm = true := by rw [← hX] <;> rfl
  have po : PassesOwn (model X.prog X.w) X.A X.env X.xe := by rw [← hX]; exact passes_of rfl
  have hr' : Room kR X.A := by rw [← hX]; exact Room.mono hr hk
  have hg : Gl X "_law_rounds" := by show X.env.scope.names.lookup _ = _; rw [eS]; exact gr
  have FR' : FnOk X.prog X.w X.K X.mg X.base (L2.CX X.prog X.w) kR fR fdR ["script", "most"] (spRounds G) := by rw [← hX]; exact FR
  have mR' : X.mg "_law_rounds" = some (.ref fR) := by rw [← hX]; exact mR
  have kR'' : PySem.W.keepIn X.K (.ref fR) = true := by rw [eK]; exact kR'
  have bR' : L2.Binds X.K fdR ["script", "most"] [] := by rw [eK]; exact bR
  have tk : Takes X (fun _ _ _ _ => False) := L2.takes0
  have pa : PA X [.Name "script" q3, .Constant (.int 1) j q4] (tCons (tVar 0) (tCons (tC (.int 1)) tNil)) :=
    pa_cons (pe_var (by rw [eN]; exact h0) (by rw [eS]; exact vs) (by decide) (by decide)) (pa_cons pe_int pa_nil)
  have pe := pe_callS (pos := q5) (p := q2) (E := WE (fun _ _ _ _ => False)) FR' hr' hg mR' kR'' bR' (passAt tk) pa
  have pb' : PSs X pb (fun E σ H => ∃ w0, tSs G Pr (fun _ _ _ _ => False) w0 H w0 H S E σ H) := ⟨fun pins s σ H E I ⟨w0, q⟩ => (DD _ w0 H w0 H (TkM.l tk)).run pins s σ H E I q⟩
  have pg : PG X (.Name "dice" q1) (gName 1) := pg_name nd (by rw [eN]; exact h1) (by rw [eS]; exact ld) (by rw [← hX]; exact .inl rfl)
  refine ⟨_, pss_cons (ps_for (pos := q6) po calm (pi_list pe) pg pb') (pss_one (ps_ret pe_bl)), ?_⟩
  have s0 : (L2.start N [V.ref a])[0]? = some (some (.ref a)) := rfl
  refine ⟨_, s0, ⟨a, ns, rfl, hS, hT, fun v H1 hv => ?_⟩⟩
  obtain ⟨L, d, c0, c1, c2, rfl, hL, hd, hT1⟩ := hv
  rw [eK]
  have hne : L ≠ d := fun z => by
    rw [z, hd] at hL
    cases hL
  refine ⟨L, rfl, ⟨[.ref d], .of hL⟩, ?_⟩
  -- the loop
  let w1 : Wd := ⟨fun b => b = L, [d], [], fun _ => none⟩
  refine ⟨fun i m σ' H' => m = 1 - i ∧ ((i = 0 ∧ σ' = L2.start N [V.ref a] ∧ H' = H1) ∨ (i = 1 ∧ H' L = some (.lst [.ref d]))), ⟨1, rfl, .inl ⟨rfl, rfl, rfl⟩⟩, ?_⟩
  rintro i m σ' H' ⟨rfl, ⟨rfl, rfl, rfl⟩ | ⟨rfl, hL'⟩⟩
  · refine .inr ⟨⟨[.ref d], .ref d, .of hL, rfl⟩, fun σ2 H2 => H2 L = some (.lst [.ref d]), fun σ2 H2 q => ⟨0, by decide, by decide, .inr ⟨rfl, q⟩⟩, fun x H2 y => ?_⟩
    obtain ⟨e2, y⟩ := y
    subst e2
    have := y [.ref d] (.of hL)
    cases this
    obtain ⟨f, ρ', st', ev, hf⟩ := M c0 c1 c2
    have wf : Wf G w1 H2 := by
      refine ⟨fun b z => ?_, fun b z => ?_, by simp [w1], fun b z => ?_, fun b z => (nomatch z), hT1⟩
      · obtain rfl : b = L := z
        exact ⟨_, hL, fun ps e => by cases e⟩
      · obtain rfl : b = L := z
        exact ⟨by simpa [w1] using hne, by simp [w1]⟩
      · obtain rfl : b = d := by simpa [w1] using z
        exact ⟨⟨_, hd, fun ps e => by cases e⟩, by simp [w1]⟩
    have st : St G w1 H2 (dst c0 c1 c2) := by
      refine ⟨wf, ?_, by simp [w1], fun a L h => nomatch h⟩
      exact .cons (O := []) (O' := []) (.nl hd (.cons rfl (.int _) (.cons rfl (.int _) (.cons rfl (.int _) .nil)))) .nil
    have eσ : (L2.start N [V.ref a]).set 1 (some (.ref d)) = some (.ref a) :: some (.ref d) :: List.replicate (N.length - 2) none := by
      unfold L2.start
      obtain ⟨n, hn⟩ : ∃ n, N.length = n + 2 := ⟨N.length - 2, by omega⟩
      simp [hn, List.replicate_succ]
    have sl : SL G w1 H2 ((L2.start N [V.ref a]).set 1 (some (.ref d))) (none :: some (0, .ref 0) :: List.replicate (N.length - 2) none) (List.replicate N.length []) := by
      rw [eσ]
      obtain ⟨n, hn⟩ : ∃ n, N.length = n + 2 := ⟨N.length - 2, by omega⟩
      have e : N.length - 2 = n := by omega
      rw [e, hn, List.replicate_succ, List.replicate_succ]
      exact .no (.so (O := []) (.zero (.ref rfl)) (sl_nones n))
    refine ⟨w1, w1, _, _, dst c0 c1 c2, ⟨Po.refl _ _, Mo.refl _ _, ⟨st, sl, by rw [flat_nil]; exact List.nodup_nil, by rw [flat_nil]; exact fun a z => nomatch z⟩, by rw [flat_nil]; exact fun a z => nomatch z⟩, ?_⟩
    rw [ev]
    rcases hf with rfl | rfl
    · exact fun σ4 w4 H4 Os4 a4 => a4.mo.kp L rfl _ hL
    · exact fun σ4 w4 H4 Os4 a4 => a4.mo.kp L rfl _ hL
  · exact .inl ⟨⟨[.ref d], .of hL', Nat.le_refl 1⟩, hQ _⟩
/-- the rounds: the text behind its first statement -/
def S_rounds (f : Nat) : List PV.S := [.ite (.cmp .Eq (.var 2) (.lst [])) [.set 2 0 (.lst [.lit (.int 0)])] [], .ret (.lc (.call f [.var 3]) (.nm 3) .seq [.var 2] [])]
theorem rounds_fn {scope : Scope} {params : Arguments} {fR : Addr} {fdR : FuncData} {p : He.Defn} {pb : List Stmt} {q1 q2 q3 q4 q5 q6 : Pos} {kL fd : Nat}
    (hGK : G.K = K) (F : FunD K "_law_rounds" "_law_rounds" params (.Assign [.Name "cells" q1] (.Subscript (.Name "script" q2) (.Slice none (some (.Name "most" q3)) none q4) q5) q6 :: pb) scope [] [] fR fdR) (hp : fR = He.fAd K p)
    (Sc : FnScope ["script", "most", "cells", "cell"] ["script", "most"] scope) (vs : Vis scope "script") (vm : Vis scope "most") (lc : scope.names.lookup ("cells" : Str) = some .local)
    (hD : ∀ (A : Around) (outer : List PySem.Env) (s : Shared) (H : Hp) (E : XK), Room kL (A.deeper (envOfC "_law_rounds" scope s.heap.objs.size fR (.ref (He.codeOf K p)))) → DSs (cxOf (L2.CX prog w) prog w K mg base ["script", "most", "cells", "cell"] "_law_rounds" scope fR (.ref (He.codeOf K p)) A outer s H E) G Pr pb (S_rounds fd))
    (M : ∀ i st, ∃ c0 c1 c2, Pr.fn fd [.int i] st = .ok (.lst [.int c0, .int c1, .int c2]) st) :
    FnOk prog w K mg base (L2.CX prog w) (kL + 1) fR fdR ["script", "most"] (spRounds G) := by
  obtain ⟨oc, od, dV, kV, doc, pm, an, cdv, ct, osl, rfl, lk, hcd, _, _⟩ := F.ex
  obtain ⟨c, rfl⟩ := He.codeIn_ref hcd
  subst hp
  have ec : He.codeOf K p = c := He.codeOf_eq lk rfl
  rw [ec] at hD
  subst hGK
  refine fn_of lk hcd Sc (fun vs H Q E h => by obtain ⟨a, ns, rfl, _⟩ := h; rfl) fun A outer s H vs Q E hr hsp => ?_
  obtain ⟨a, ns, rfl, hS, hT, hQ⟩ := hsp
  have DD := hD A outer s H E hr
  generalize hX : cxOf (L2.CX prog w) prog w G.K mg base ["script", "most", "cells", "cell"] "_law_rounds" scope (He.fAd G.K p) (.ref c) A outer s H E = X at DD ⊢
  have eN : X.N = (["script", "most", "cells", "cell"] : List Str) := by rw [← hX] <;> rfl
  have eS : X.env.scope = scope := by rw [← hX] <;> rfl
  have eK : X.K = G.K := by rw [← hX] <;> rfl
  have nd : X.N.Nodup := by rw [eN]; exact Sc.nd
  have tk : Takes X (fun _ _ _ _ => False) := L2.takes0
  have pb' : PSs X pb (fun E σ H => ∃ w0, tSs G Pr (fun _ _ _ _ => False) w0 H w0 H (S_rounds fd) E σ H) := ⟨fun pins s σ H E I ⟨w0, q⟩ => (DD _ w0 H w0 H (TkM.l tk)).run pins s σ H E I q⟩
  have ps : PS X (.Assign [.Name "cells" q1] (.Subscript (.Name "script" q2) (.Slice none (some (.Name "most" q3)) none q4) q5) q6) (tAsg (tSl (rSlL X.K) (tVar 0) tNoPart (tPart (tVar 1))) (gName 2)) :=
    ps_set (i := 2) nd (by rw [eN] <;> rfl) (by rw [eS]; exact .inl lc) (pe_slice sl_list (pe_var (by rw [eN] <;> rfl) (by rw [eS]; exact vs) (by decide) (by decide)) po_none (po_some (pe_var (by rw [eN] <;> rfl) (by rw [eS]; exact vm) (by decide) (by decide)))) (by rfl) (.inr (by rw [eS]; exact lc))
  refine ⟨_, pss_cons ps pb', ?_⟩
  refine ⟨_, rfl, _, rfl, _, rfl, ?_⟩
  rw [eK]
  refine ⟨a, _, rfl, hS, fun q hq => ?_⟩
  -- the rest
  let ds : List D := (cutL ns none (some 1)).map D.int
  have ev : cutV (ns.map V.int) none (some 1) = (cutL ns none (some 1)).map V.int := by
    unfold cutV cutL
    simp
  rw [ev]
  generalize hcs : cutL ns none (some 1) = cs at ds
  have hcs1 : cs.length ≤ 1 := by
    rw [← hcs]
    unfold cutL
    simp [HT.sIx]
    omega
  generalize hH1 : upd H q (.lst (cs.map V.int)) = H1
  have hq1 : H1 q = some (.lst (cs.map V.int)) := by rw [← hH1]; exact upd_same
  have hT1 : TabsN G.T H1 := fun t ht => by
    obtain ⟨ps, h1, h2, h3⟩ := hT t ht
    rw [← hH1]
    refine ⟨ps, by rw [upd_ne (fun z => by rw [z, hq] at h1; cases h1)]; exact h1, h2, fun pos cv hc => ?_⟩
    obtain ⟨c, e1, e2⟩ := h3 pos cv hc
    exact ⟨c, e1, by rw [upd_ne (fun z => by rw [z, hq] at e2; cases e2)]; exact e2⟩
  let w1 : Wd := ⟨fun b => b = q, [], [], fun _ => none⟩
  have wf : Wf G w1 H1 := by
    refine ⟨fun b z => ?_, fun b z => by simp [w1], by simp [w1], fun b z => (nomatch z), fun b z => (nomatch z), hT1⟩
    obtain rfl : b = q := z
    exact ⟨_, hq1, fun ps e => by cases e⟩
  have fr : FR G w1 H1 (.lst (cs.map D.int)) (.ref q) := .lst ⟨rfl, hq1⟩ (frs_ints cs)
  refine ⟨w1, w1, [none, some (0, .int 1), some (0, .lst (cs.map D.int)), none], [[], [], [], []], [], ⟨Po.refl _ _, Mo.refl _ _, ⟨⟨wf, .nil, by simp [w1], fun a L h => nomatch h⟩, ?_, by simp, by simp⟩, by simp⟩, ?_⟩
  · exact .no (.so (O := []) (.zero (.int 1)) (.so (O := []) (.zero fr) (.no .nil)))
  have key : ∃ c0 c1 c2 ρ', evSs Pr (S_rounds fd) [none, some (0, .int 1), some (0, .lst (cs.map D.int)), none] [] = .ok (.rt (.lst [.lst [.int c0, .int c1, .int c2]]), ρ') [] := by
    have kw : Wp (evSs Pr (S_rounds fd) [none, some (0, .int 1), some (0, .lst (cs.map D.int)), none]) [] (fun r s => s = [] ∧ ∃ c0 c1 c2, r.1 = .rt (.lst [.lst [.int c0, .int c1, .int c2]])) fun _ _ _ => False := by
      have e0 : eqD (.lst []) (.lst []) = some true := by decide
      have e1 : ∀ i : Int, eqD (.lst [.int i]) (.lst []) = some false := fun i => eqD_ne (n := 1) (m := 1) (by simp [gn]) (by simp [gn]) (by decide) (by decide) (by simp)
      have one : ∀ (i : Int) (acc : List D) (c0 c1 c2 : Int), Pr.fn fd [.int i] [] = .ok (.lst [.int c0, .int c1, .int c2]) [] → Wp (lcM Pr (.call fd [.var 3]) (.nm 3) [] [none, some (0, .int 1), some (0, .lst [.int i]), none] acc (.int i)) [] (fun a s => a = acc ++ [.lst [.int c0, .int c1, .int c2]] ∧ s = []) fun _ _ _ => False := fun i acc c0 c1 c2 e => by
        simp [wp_lcM, bindT, tgV, wipeE, argsB, lvE, putLB]
        exact wp_ok e ⟨rfl, rfl, rfl⟩
      have two : ∀ (i : Int), Wp (evSs Pr [.ret (.lc (.call fd [.var 3]) (.nm 3) .seq [.var 2] [])] [none, some (0, .int 1), some (0, .lst [.int i]), none]) [] (fun r s => s = [] ∧ ∃ c0 c1 c2, r.1 = .rt (.lst [.lst [.int c0, .int c1, .int c2]])) fun _ _ _ => False := fun i => by
        obtain ⟨c0, c1, c2, e⟩ := M i []
        simp [itD, seqD, view, seqO, foldM]
        refine wp_calm ((one i [] c0 c1 c2 e).mono1 fun a s h => ?_)
        obtain ⟨rfl, rfl⟩ := h
        exact ⟨rfl, c0, c1, c2, rfl⟩
      match cs, hcs1 with
      | [], _ =>
        unfold S_rounds
        have := two 0
        rw [wp_ss_cons]
        simp [e0, keepsB, putB, newK]
        simpa using this
      | [i], _ =>
        unfold S_rounds
        have := two i
        rw [wp_ss_cons]
        simp [e1, keepsB, putB]
        simpa using this
      | _ :: _ :: _, h => simp at h
    unfold Wp at kw
    cases e : evSs Pr (S_rounds fd) [none, some (0, .int 1), some (0, .lst (cs.map D.int)), none] [] with
    | ok r s =>
      rw [e] at kw
      obtain ⟨rfl, c0, c1, c2, h⟩ := kw
      obtain ⟨f, ρ'⟩ := r
      dsimp only at h
      subst h
      exact ⟨c0, c1, c2, ρ', rfl⟩
    | ex c p s => rw [e] at kw; exact kw.elim
    | no => rw [e] at kw; exact kw.elim
  obtain ⟨c0, c1, c2, ρ', e⟩ := key
  rw [e]
  intro v w' H' p' _ s' f
  obtain ⟨L, vs1, rfl, hF, hL, hs⟩ := f.lst_inv
  cases hs with
  | cons n1 f1 r1 =>
    cases r1
    obtain ⟨d, vs2, rfl, hF2, hd, hs2⟩ := f1.lst_inv
    have : vs2 = [V.int c0, V.int c1, V.int c2] := FRs.ints (is := [c0, c1, c2]) hs2
    subst this
    exact hQ _ _ ⟨L, d, c0, c1, c2, rfl, hL, hd, s'.wf.tb⟩
end
end PV

/-! part PV35 -/
/-! PV35: the end of a law. -/
namespace PV
open PySem PySem.Spec PyProof.Rows L2 LamX NdefX

theorem cx_false {P : Program} {w : World} {o : List PySem.Env} {H : Hp} {s : Shared} {e : Value} {s' : Shared} (h : L2.CX P w o H s (fun _ _ _ => False) e s') : False := by
  obtain ⟨_, _, _, _, _, _, _, _, _, _, _, _, z⟩ := h
  exact z
theorem law_at {l : PySem.W.OpenLaw} {w : World} {K : PySem.W.Frag} {mg : Str → Option Value} {fa : Addr} {h : Heap} {n k : Nat} {facts : List He.Fa} {fn : List He.DefD} {ts : List He.Tab} {tabs : List (He.Defn × (Nat → Nat → Str))} {ex' : PySem.W.Frag → Bool} {GX : Gx} {fd : FuncData}
    (hK : GX.K = K) (hT : GX.T = GT K tabs) (KX : K.In h) (G : h.Ns mainGlobals mg) (hmg : mg ("law" : Str) = some (.ref fa)) (c : He.SaysX facts fn ts (tabs.map (·.1)) ex' w h K) (nd : (tabs.map fun t => (He.cT K t.1).2).Nodup) (g : (He.Fa.glo "law").ok K = true)
    (hb : ∀ (s : Shared) (u : Value), BindsTo s fd ⟨[u], []⟩ [("script", u)])
    (hL : ∀ base : Heap, K.In base → base.Ns mainGlobals mg → (∀ t ∈ tabs, TabB base mg (He.cT K t.1).1 (He.cT K t.1).2) → (tabs.map fun t => (He.cT K t.1).2).Nodup → FnOk l.prog w K mg base (L2.CX l.prog w) k (He.fAd K ("law", none)) fd ["script"] (spLaw GX)) :
    ∃ K : PySem.W.Frag, K.In h ∧ LawAtS l w K (L2.CX l.prog w) k n "script" mg fa h := by
  have e := hmg.symm.trans (He.glo_ok KX G g)
  cases e
  have mem : ∀ p ∈ (tabs.map (·.1)).map (He.cT K), ∃ t ∈ tabs.map (·.1), p = He.cT K t := fun p hp => by
    obtain ⟨t, ht, rfl⟩ := List.mem_map.mp hp
    exact ⟨t, ht, rfl⟩
  refine ⟨K, KX, fd, (tabs.map (·.1)).map (He.cT K), spLaw GX, fun p hp => ?_, fun p hp => ?_, fun p hp => ?_, hb, fun H a ns _ _ hH hS => ?_, fun base K1 N1 TB => hL base K1 N1 (fun t ht => TB _ (List.mem_map.mpr ⟨t.1, List.mem_map.mpr ⟨t, ht, rfl⟩, rfl⟩)) nd⟩
  · obtain ⟨t, ht, rfl⟩ := mem p hp
    exact c.empty t ht
  · obtain ⟨t, ht, rfl⟩ := mem p hp
    exact c.out t ht
  · obtain ⟨t, ht, rfl⟩ := mem p hp
    exact PySem.W.codeHd_of_K KX (c.hd t ht)
  · refine ⟨a, ns, rfl, by rw [hK]; exact hS, ?_, fun _ => rfl⟩
    rw [hT]
    exact tabsN_empty fun t ht => hH _ (List.mem_map.mpr ⟨t.1, List.mem_map.mpr ⟨t, ht, rfl⟩, rfl⟩)
end PV

/-! part PV36 -/
/-! PV36: tuple(reversed(t)) of a tuple. -/
namespace RT
open PySem PySem.Spec PyProof.Rows L2
section
variable {prog : Program} {w : World} {A : Around} {E : Value → Shared → Prop} {s : Shared}
theorem Walks.rt (hh : A.handled = none) (I t : Addr) (hne : t ≠ I) (items : Array Value) (hn : items.size ≤ sizeLine) :
    Walks prog w A I [I, t] [I] items.size (fun i v => items[items.size - 1 - i]? = some v) (fun i h => i ≤ items.size ∧ IsRt h I t ((items.size : Int) - 1 - (i : Int)) ∧ IsTup h t items) where
  sub := fun b hb => by simp at hb; simp [hb]
  frame := fun _ _ _ x hk => ⟨x.1, x.2.1.at fun o e => hk I (by simp) o e, let ⟨o, ho, r⟩ := x.2.2; ⟨o, hk t (by simp) o ho, r⟩⟩
  item := fun i s Q E hi x hQ => by
    have e : (items.size : Int) - 1 - (i : Int) = ((items.size - 1 - i : Nat) : Int) := by omega
    have hit := x.2.1
    rw [e] at hit
    have hx : items[items.size - 1 - i]? = some (items[items.size - 1 - i]'(by omega)) := Array.getElem?_eq_getElem (by omega)
    refine next_rt_item hit x.2.2 hx hn fun h' hit' hs' => ?_
    have e2 : ((items.size - 1 - i : Nat) : Int) - 1 = (items.size : Int) - 1 - ((i + 1 : Nat) : Int) := by omega
    rw [e2] at hit'
    exact hQ _ h' (s.toks + 1) hx ⟨hi, hit', let ⟨o, ho, r⟩ := x.2.2; ⟨o, (hs'.2 t hne).trans ho, r⟩⟩ fun b o hb eo => hs'.extBut b o (fun h => hb (by simp [h])) eo
  done := fun s Q E x hQ => by
    have e : (items.size : Int) - 1 - (items.size : Int) = -1 := by omega
    have hit := x.2.1
    rw [e] at hit
    exact next_rt_end hh hit fun h' he' => hQ h' s.toks fun b o hb eo => he' b o (fun h => hb (by simp [h])) eo
  self := fun _ _ _ _ x hQ => iter_rt x.2.1 hQ
end
section
variable {X : Cx}
def tTupRevT (K : PySem.W.Frag) (te : TE) : TE := fun σ H Q => te σ H fun v H1 => ∃ (a : Addr) (xs : List V), v = .ref a ∧ SqT K H1 a xs ∧ ∀ q, H1 q = none → Q (.ref q) (upd H1 q (.tup xs.reverse))
end
end RT
namespace PV
open PySem PySem.Spec PyProof.Rows L2 LamX NdefX
theorem FRs.rev {G : Gx} {w : Wd} {H : Hp} : ∀ {ds : List D} {vs : List V}, FRs G w H ds vs → FRs G w H ds.reverse vs.reverse
  | _, _, .nil => .nil
  | _, _, .cons n a b => by
    rw [List.reverse_cons, List.reverse_cons]
    exact (FRs.rev b).app (.cons n a .nil)
section
variable {X : Cx} {G : Gx} {P : Pr} {pos : Pos}
end
end PV

/-! part PV37 -/
/-! PV37: built-in functions, what is walked; the law's own draws. -/
namespace PV
open PySem L2

section
variable {st : Sto} {X : Nat → D → Sto → Prop} {Q : KD → Sto → Prop} {k k' k'' : Kd} {i j l : Int}
@[simp] theorem wp_bint : Wp (biD .int [(k, .int i)]) st Q X ↔ Q (.fz, .int i) st := Iff.rfl
@[simp] theorem wp_bintB {b : Bool} : Wp (biD .int [(k, .bl b)]) st Q X ↔ Q (.fz, .int (if b then 1 else 0)) st := Iff.rfl
@[simp] theorem wp_babs : Wp (biD .abs [(k, .int i)]) st Q X ↔ Q (.fz, .int (if i < 0 then -i else i)) st := Iff.rfl
@[simp] theorem wp_blenL {ds : List D} : Wp (biD .len [(k, .lst ds)]) st Q X ↔ Q (.fz, .int ds.length) st := Iff.rfl
@[simp] theorem wp_blenT {ds : List D} : Wp (biD .len [(k, .tup ds)]) st Q X ↔ Q (.fz, .int ds.length) st := Iff.rfl
@[simp] theorem wp_blistL {ds : List D} : Wp (biD .list [(k, .lst ds)]) st Q X ↔ viewB k = true ∧ Q (.fr 1, .lst ds) st := wp_ifno
@[simp] theorem wp_blistT {ds : List D} : Wp (biD .list [(k, .tup ds)]) st Q X ↔ Q (.fr 1, .lst ds) st := Iff.rfl
@[simp] theorem wp_btupL {ds : List D} : Wp (biD .tuple [(k, .lst ds)]) st Q X ↔ viewB k = true ∧ Q (.fz, .tup ds) st := wp_ifno
@[simp] theorem wp_btupT {ds : List D} : Wp (biD .tuple [(k, .tup ds)]) st Q X ↔ Q (.fz, .tup ds) st := Iff.rfl
theorem intsO_map : ∀ is : List Int, intsO (is.map .int) = some is
  | [] => rfl
  | i :: is => by
    show (match intO (.int i), intsO (is.map .int) with | some i, some is => some (i :: is) | _, _ => none) = _
    rw [intsO_map is]
    rfl
theorem wp_bsum {is : List Int} : Wp (biD .sum [(k, .lst (is.map .int))]) st Q X ↔ Q (.fz, .int is.sum) st := by
  show Wp (ofO (intsO (is.map .int)) >>= fun is => pure (.fz, .int is.sum)) st Q X ↔ _
  rw [intsO_map]
  exact Iff.rfl
@[simp] theorem wp_bmin2 : Wp (biD .min2 [(k, .int i), (k', .int j)]) st Q X ↔ Q (.fz, .int (if j < i then j else i)) st := Iff.rfl
@[simp] theorem wp_bmax2 : Wp (biD .max2 [(k, .int i), (k', .int j)]) st Q X ↔ Q (.fz, .int (if j > i then j else i)) st := Iff.rfl
@[simp] theorem wp_bmin3 : Wp (biD .min3 [(k, .int i), (k', .int j), (k'', .int l)]) st Q X ↔ Q (.fz, .int (if l < (if j < i then j else i) then l else (if j < i then j else i))) st := Iff.rfl
@[simp] theorem wp_bmax3 : Wp (biD .max3 [(k, .int i), (k', .int j), (k'', .int l)]) st Q X ↔ Q (.fz, .int (if l > (if j > i then j else i) then l else (if j > i then j else i))) st := Iff.rfl
@[simp] theorem wp_btupRevL {ds : List D} : Wp (biD .tupRev [(k, .lst ds)]) st Q X ↔ viewB k = true ∧ Q (.fz, .tup ds.reverse) st := wp_ifno
@[simp] theorem wp_btupRevT {ds : List D} : Wp (biD .tupRev [(k, .tup ds)]) st Q X ↔ Q (.fz, .tup ds.reverse) st := Iff.rfl
@[simp] theorem wp_blrg : Wp (biD .lrg [(k, .int i), (k', .int j), (k'', .int l)]) st Q X ↔ lrgOk i j l = true ∧ Q (.fr 1, .lst ((rangeC i l (rngN i j l)).map .int)) st := wp_ifno
/-! items, slices, fields -/
@[simp] theorem wp_idxL {ds : List D} : Wp (idxD (k, .lst ds) (.int i)) st Q X ↔ Wp (ofO (L2.atI ds i)) st (fun d s => Q (itemK k d) s) X := by
  unfold idxD
  dsimp only
  cases L2.atI ds i <;> exact Iff.rfl
@[simp] theorem wp_idxT {ds : List D} : Wp (idxD (k, .tup ds) (.int i)) st Q X ↔ Wp (ofO (L2.atI ds i)) st (fun d s => Q (.fz, d) s) X := by
  unfold idxD
  dsimp only
  cases L2.atI ds i <;> exact Iff.rfl
@[simp] theorem wp_idxR0 {ds : List D} {r : Sto} : Wp (idxD (k, .ref 0) (.int i)) (.nl ds :: r) Q X ↔ Wp (ofO (L2.atI ds i)) (.nl ds :: r) (fun d s => Q (.fz, d) s) X := by
  have e : idxD (k, .ref 0) (.int i) (.nl ds :: r) = ofO ((L2.atI ds i).map fun d => (Kd.fz, d)) (.nl ds :: r) := rfl
  unfold Wp
  rw [e]
  cases L2.atI ds i <;> exact Iff.rfl
@[simp] theorem itemK_fz (d : D) : itemK .fz d = (.fz, d) := rfl
@[simp] theorem itemK_an (d : D) : itemK .an d = (.fz, d) := rfl
@[simp] theorem itemK_fr (l : Nat) (d : D) : itemK (.fr l) d = (.fz, d) := rfl
@[simp] theorem itemK_bo1 (d : D) : itemK (.bo 1) d = (.fz, d) := by simp [itemK]
@[simp] theorem wp_slcL {ds : List D} {lo hi : Option Int} : Wp (slcD (k, .lst ds) lo hi) st Q X ↔ viewB k = true ∧ Q (.fr 1, .lst (cutL ds lo hi)) st := wp_ifno
@[simp] theorem wp_slcT {ds : List D} {lo hi : Option Int} : Wp (slcD (k, .tup ds) lo hi) st Q X ↔ Q (.fz, .tup (cutL ds lo hi)) st := Iff.rfl
@[simp] theorem wp_fldI {c f : Nat} {ds : List D} : Wp (fldD c (.ins c ds) f) st Q X ↔ Wp (ofO ds[f]?) st (fun d s => Q (.fz, d) s) X := by
  unfold fldD
  dsimp only
  rw [if_pos rfl]
  simp
theorem wp_setiR0 {ds : List D} {r : Sto} {d : D} {j : Nat} {Q : Unit → Sto → Prop} (h : L2.ixN ds.length i = some j) : Wp (setiM (.ref 0) (.int i) d) (.nl ds :: r) Q X ↔ Q () (.nl (ds.set j d) :: r) := by
  have e : setiM (.ref 0) (.int i) d (.nl ds :: r) = setiN 0 i d (some (.nl ds)) (.nl ds :: r) := rfl
  unfold Wp
  rw [e]
  unfold setiN
  dsimp only
  rw [h]
  exact Iff.rfl
/-! walks -/
variable {Q : List D → Sto → Prop}
@[simp] theorem wp_itL {ds : List D} : Wp (itD .seq [(k, .lst ds)]) st Q X ↔ viewB k = true ∧ Q ds st := by
  show Wp (view (k, .lst ds) >>= fun _ => ofO (seqO (.lst ds))) st Q X ↔ _
  simp only [wp_bind, view, wp_ifno]
  exact Iff.rfl
@[simp] theorem wp_itT {ds : List D} : Wp (itD .seq [(k, .tup ds)]) st Q X ↔ viewB k = true ∧ Q ds st := by
  show Wp (view (k, .tup ds) >>= fun _ => ofO (seqO (.tup ds))) st Q X ↔ _
  simp only [wp_bind, view, wp_ifno]
  exact Iff.rfl
@[simp] theorem wp_itDK {kvs : List (Ky × D)} : Wp (itD .seq [(k, .dic kvs)]) st Q X ↔ walkB k = true ∧ Q (kvs.map fun p => keyD p.1) st := wp_ifno
@[simp] theorem wp_itDV {kvs : List (Ky × D)} : Wp (itD .vls [(k, .dic kvs)]) st Q X ↔ walkB k = true ∧ Q (kvs.map (·.2)) st := wp_ifno
@[simp] theorem wp_itDI {kvs : List (Ky × D)} : Wp (itD .itm [(k, .dic kvs)]) st Q X ↔ walkB k = true ∧ Q (kvs.map fun p => .tup [keyD p.1, p.2]) st := wp_ifno
@[simp] theorem wp_itR1 : Wp (itD .rng [(k, .int j)]) st Q X ↔ (szOk j.toNat ∧ -(2 ^ 62) ≤ j) ∧ Q ((rangeI 0 j.toNat).map .int) st := wp_ifno
@[simp] theorem wp_itR2 : Wp (itD .rng [(k, .int i), (k', .int j)]) st Q X ↔ (szOk (j - i).toNat ∧ -(2 ^ 62) ≤ j ∧ j < 2 ^ 62 ∧ -(2 ^ 62) ≤ i ∧ i < 2 ^ 62) ∧ Q ((rangeI i (j - i).toNat).map .int) st := wp_ifno
@[simp] theorem wp_itEL {ds : List D} : Wp (itD .enm [(k, .lst ds)]) st Q X ↔ viewB k = true ∧ Q ((ds.zipIdx).map fun p => .tup [.int p.2, p.1]) st := by
  show Wp (view (k, .lst ds) >>= fun d => ofO (seqO d) >>= fun ds => pure ((ds.zipIdx).map fun p => .tup [.int p.2, p.1])) st Q X ↔ _
  simp only [wp_bind, view, wp_ifno]
  exact Iff.rfl
@[simp] theorem wp_itET {ds : List D} : Wp (itD .enm [(k, .tup ds)]) st Q X ↔ viewB k = true ∧ Q ((ds.zipIdx).map fun p => .tup [.int p.2, p.1]) st := by
  show Wp (view (k, .tup ds) >>= fun d => ofO (seqO d) >>= fun ds => pure ((ds.zipIdx).map fun p => .tup [.int p.2, p.1])) st Q X ↔ _
  simp only [wp_bind, view, wp_ifno]
  exact Iff.rfl
@[simp] theorem wp_itZL {as bs : List D} : Wp (itD .zp [(k, .lst as), (k', .lst bs)]) st Q X ↔ viewB k = true ∧ viewB k' = true ∧ Q ((as.zip bs).map fun p => .tup [p.1, p.2]) st := by
  show Wp (view (k, .lst as) >>= fun _ => view (k', .lst bs) >>= fun _ => pure ((as.zip bs).map fun p => .tup [p.1, p.2])) st Q X ↔ _
  simp only [wp_bind, view, wp_ifno]
  exact Iff.rfl
@[simp] theorem wp_itZT {as bs : List D} : Wp (itD .zp [(k, .tup as), (k', .tup bs)]) st Q X ↔ Q ((as.zip bs).map fun p => .tup [p.1, p.2]) st := Iff.rfl
end
@[simp] theorem forB_nil : forB [] = true := rfl
@[simp] theorem forB_cons (x : KD) (xs : List KD) : forB (x :: xs) = (walkB x.1 && forB xs) := rfl
@[simp] theorem walkB_fz : walkB .fz = true := rfl
@[simp] theorem walkB_an : walkB .an = true := rfl
@[simp] theorem walkB_fr (l : Nat) : walkB (.fr l) = true := rfl
@[simp] theorem walkB_lk : walkB .lk = true := rfl
@[simp] theorem walkB_newK (xs : List KD) : walkB (newK xs) = true := by unfold newK; split <;> rfl
@[simp] theorem argsB_nil : argsB [] = true := rfl
@[simp] theorem argsB_cons (x : KD) (xs : List KD) : argsB (x :: xs) = (keepB x.1 && argsB xs) := rfl
@[simp] theorem keepsB_nil : keepsB [] = true := rfl
@[simp] theorem keepsB_cons (x : KD) (xs : List KD) : keepsB (x :: xs) = (putB x && keepsB xs) := rfl
@[simp] theorem putB_def (x : KD) : putB x = (keepB x.1 && !isR x.2) := rfl

@[simp] theorem keepB_newK (xs : List KD) : keepB (newK xs) = true := by unfold newK; split <;> rfl
@[simp] theorem viewB_newK (xs : List KD) : viewB (newK xs) = true := by unfold newK; split <;> rfl
@[simp] theorem slot0_newK (xs : List KD) : slotL 0 (newK xs) = some 0 := by unfold newK; split <;> rfl
@[simp] theorem slot1_newK (xs : List KD) : slotL 1 (newK xs) = some 1 := by unfold newK; split <;> rfl
@[simp] theorem slot_fr1 : slotL 1 (.fr 1) = some 1 := rfl
@[simp] theorem itemK_newK (xs : List KD) (d : D) : itemK (newK xs) d = (.fz, d) := by unfold newK; split <;> rfl
/-! the draws -/
def S_roll : List S := [.ite (.orr (.cmp .Eq (.idx (.var 0) (.lit (.int 2))) (.lit (.int 2))) (.an (.cmp .Eq (.idx (.var 0) (.lit (.int 2))) (.lit (.int 1))) (.cmp .Gt (.idx (.var 0) (.lit (.int 0))) (.lit (.int 0))))) [.set 2 0 (.bin .Mod (.bi .int [.idx (.var 0) (.lit (.int 0))]) (.var 1)), .seti (.var 0) (.lit (.int 0)) (.bin .FloorDiv (.idx (.var 0) (.lit (.int 0))) (.var 1)), .ret (.var 2)] [], .seti (.var 0) (.lit (.int 2)) (.lit (.int 0)), .seti (.var 0) (.lit (.int 0)) (.bin .Mod (.bi .int [.bin .Add (.bin .Add (.bin .Mult (.idx (.var 0) (.lit (.int 0))) (.lit (.int 48271))) (.bin .Mult (.idx (.var 0) (.lit (.int 1))) (.lit (.int 69621)))) (.lit (.int 11))]) (.lit (.int 2147483647))), .seti (.var 0) (.lit (.int 1)) (.bin .Add (.idx (.var 0) (.lit (.int 1))) (.lit (.int 1))), .ret (.bin .Mod (.bi .int [.bin .Add (.bin .FloorDiv (.idx (.var 0) (.lit (.int 0))) (.lit (.int 7))) (.idx (.var 0) (.lit (.int 0)))]) (.var 1))]
def S_dice : List S := [.ite (.cmp3 (.bin .Sub (.lit (.int 0)) (.lit (.int 10))) .Lt (.var 0) .Lt (.lit (.int 10))) [.ret (.lst [.bi .abs [.var 0], .lit (.int 0), .lit (.int 2)])] [], .ret (.lst [.var 0, .bin .Add (.lit (.int 1)) (.bin .Mod (.bi .int [.var 0]) (.lit (.int 1009))), .bi .int [.cmp .GtE (.var 0) (.bin .Pow (.lit (.int 10)) (.lit (.int 18)))]])]
def S_flat : List S := [.set 1 0 (.lst []), .for_ (.nm 2) .seq [.var 0] [.set 1 0 (.bin .Add (.var 1) (.var 2))], .ret (.var 1)]
theorem roll_wp {P : Pr} {m a b c : Int} {Q : D → Sto → Prop} {X : Nat → D → Sto → Prop} (h0 : 0 < m) (h1 : m < 1073741824) (h : ∀ k a' b' c', 0 ≤ k → k < m → Q (.int k) (dst a' b' c')) : Wp (runF P 3 S_roll [.ref 0, .int m]) (dst a b c) Q X := by
  rw [wp_runF]
  unfold S_roll dst
  simp [L2.atI, L2.ixN, mulOk, divOk, h0, h1, wp_setiR0]
  have e1 : 0 ≤ a % m ∧ a % m < m := ⟨Int.emod_nonneg _ (by omega), Int.emod_lt_of_pos _ h0⟩
  have e2 : ∀ z : Int, 0 ≤ z % m ∧ z % m < m := fun z => ⟨Int.emod_nonneg _ (by omega), Int.emod_lt_of_pos _ h0⟩
  refine ⟨fun _ => h _ _ _ _ e1.1 e1.2, fun _ => ⟨fun _ => ⟨fun _ => h _ _ _ _ e1.1 e1.2, fun _ => h _ _ _ _ (e2 _).1 (e2 _).2⟩, fun _ => h _ _ _ _ (e2 _).1 (e2 _).2⟩⟩
theorem dice_run {P : Pr} (i : Int) (st : Sto) : ∃ c0 c1 c2, runF P 1 S_dice [.int i] st = .ok (.lst [.int c0, .int c1, .int c2]) st := by
  have h : Wp (runF P 1 S_dice [.int i]) st (fun d s => s = st ∧ ∃ c0 c1 c2, d = .lst [.int c0, .int c1, .int c2]) fun _ _ _ => False := by
    rw [wp_runF]
    unfold S_dice
    simp [powOk]
  unfold Wp at h
  cases e : runF P 1 S_dice [.int i] st with
  | ok d s =>
    rw [e] at h
    obtain ⟨rfl, c0, c1, c2, rfl⟩ := h
    exact ⟨c0, c1, c2, rfl⟩
  | ex c p s => rw [e] at h; exact h.elim
  | no => rw [e] at h; exact h.elim
end PV

/-! part PV38 -/
/-! PV38: comprehensions over typed lists. -/
namespace PV
open PySem L2

@[simp] theorem bindT_nm (i : Nat) (d : D) (ρ : Env) : bindT (.nm i) d ρ = some (ρ.set i (some (0, d))) := by rw [bindT]
@[simp] theorem bindT_tup (ts : List Tg) (ds : List D) (ρ : Env) : bindT (.tp ts) (.tup ds) ρ = bindTs ts ds ρ := by rw [bindT]
@[simp] theorem bindT_lst (ts : List Tg) (ds : List D) (ρ : Env) : bindT (.tp ts) (.lst ds) ρ = bindTs ts ds ρ := by rw [bindT]
@[simp] theorem bindTs_nil (ρ : Env) : bindTs [] [] ρ = some ρ := by rw [bindTs]
@[simp] theorem bindTs_cons (t : Tg) (ts : List Tg) (d : D) (ds : List D) (ρ : Env) : bindTs (t :: ts) (d :: ds) ρ = (bindT t d ρ).bind fun ρ1 => bindTs ts ds ρ1 := by rw [bindTs]
@[simp] theorem tgV_nm (i : Nat) : tgV (.nm i) = [i] := by rw [tgV]
@[simp] theorem tgV_tp (ts : List Tg) : tgV (.tp ts) = tgVs ts := by rw [tgV]
@[simp] theorem tgVs_nil : tgVs [] = [] := by rw [tgVs]
@[simp] theorem tgVs_cons (t : Tg) (ts : List Tg) : tgVs (t :: ts) = tgV t ++ tgVs ts := by rw [tgVs]
@[simp] theorem wipeE_nil (ρ : Env) : wipeE ρ [] = ρ := rfl
@[simp] theorem wipeE_cons (ρ : Env) (v : Nat) (vs : List Nat) : wipeE ρ (v :: vs) = (wipeE ρ vs).set v none := rfl
@[simp] theorem genStep_sum (i j : Int) : genStep .sum (.int i) (.int j) = some (.int (i + j)) := rfl
@[simp] theorem genStep_any (d : D) (b : Bool) : genStep .any d (.bl b) = some (.bl b) := rfl
@[simp] theorem genStep_all (d : D) (b : Bool) : genStep .all d (.bl b) = some (.bl b) := rfl
@[simp] theorem putLB_0 (x : KD) : putLB 0 x = (!isR x.2 && keepB x.1) := by
  unfold putLB
  cases isR x.2 <;> cases keepB x.1 <;> simp
section
variable {α : Type} {P : Pr} {elt : E} {tg : Tg} {ifs : List E} {ρ : Env} {st : Sto} {X : Nat → D → Sto → Prop}
theorem wp_gen_any {Q : D → Sto → Prop} {g : α → D} {f : α → Bool} (xs : List α) (H : ∀ x ∈ xs, ∀ st, Wp (genM P .any elt tg ifs ρ (.bl false) (g x)) st (fun r s => r = .bl (f x) ∧ s = st) fun _ _ _ => False) (q : Q (.bl (xs.any f)) st) :
    Wp (foldM (genF P .any elt tg ifs ρ) (xs.map g) (gen0 .any)) st Q X := by
  have e : ∀ (l : List α), (∀ x ∈ l, x ∈ xs) → foldM (genF P .any elt tg ifs ρ) (l.map g) (.bl false) = pure (.bl (l.any f)) := by
    intro l
    induction l with
    | nil => intro _; simp [foldM_nil]
    | cons a l ih =>
      intro hl
      rw [List.map_cons, foldM_cons]
      have : genF P .any elt tg ifs ρ (.bl false) (g a) = pure (.bl (f a)) := by
        unfold genF
        rw [if_neg (by simp [genEnd]), eq_pure (H a (hl a (by simp)))]
        rfl
      rw [this]
      show foldM _ _ (D.bl (f a)) = _
      cases c : f a with
      | true => rw [foldM_end rfl]; simp [c]
      | false => rw [ih fun x hx => hl x (by simp [hx])]; simp [c]
  show Wp (foldM (genF P .any elt tg ifs ρ) (xs.map g) (.bl false)) st Q X
  rw [e xs fun _ h => h]
  exact q
/-- a for over a typed list -/
theorem wp_for_map {b : D → Env → M (Fl × Env)} {g : α → D} {I : List α → Env → Sto → Prop} {Q : Fl × Env → Sto → Prop} (xs : List α) (ρ : Env) (st : Sto) (h : I xs ρ st)
    (s : ∀ x l ρ st, I (x :: l) ρ st → Wp (b (g x) ρ) st (fun r s => match r.1 with
      | .nx => I l r.2 s
      | .ct => I l r.2 s
      | .bk => Q (.nx, r.2) s
      | .rt d => Q (.rt d, r.2) s) X) (q : ∀ ρ st, I [] ρ st → Q (.nx, ρ) st) : Wp (forM' b (xs.map g) ρ) st Q X := by
  induction xs generalizing ρ st with
  | nil => exact q ρ st h
  | cons x l ih =>
    rw [List.map_cons]
    unfold forM'
    rw [wp_bind]
    refine (s x l ρ st h).mono1 fun r s1 h1 => ?_
    obtain ⟨f, ρ1⟩ := r
    cases f with
    | nx => exact ih ρ1 s1 h1
    | ct => exact ih ρ1 s1 h1
    | bk => exact h1
    | rt d => exact h1
end
/-! a new instance whose fields don't change -/
theorem newI_ex {c n e : Nat} {init : List D → M D} {ds : List D} (h : ∀ st : Sto, init (.ref st.length :: ds) (st ++ [.ni c []]) = .ex e .non (st ++ [.ni c []])) : newI c n init ds = raise e .non := by
  funext st
  unfold newI
  rw [h st]
  dsimp only
  rw [if_pos ⟨rfl, by simp⟩]
  simp
  rfl
/-- a field is stored in the object that is made -/
theorem wp_setf_new {c k : Nat} {d : D} {st : Sto} {X : Nat → D → Sto → Prop} {fs fs' : List (Nat × D)} {Q : Unit → Sto → Prop} (h : putFd k d fs = some fs') : Wp (setfM c (.ref st.length) k d) (st ++ [.ni c fs]) Q X ↔ Q () (st ++ [.ni c fs']) := by
  unfold setfM Wp
  simp [h]
/-! items -/
@[simp] theorem rangeI_length (lo : Int) (n : Nat) : (rangeI lo n).length = n := by simp [rangeI]
end PV

/-! part PV39 -/
/-! PV39: list(dict(ps)), len(dict(ps)) of a list of pairs whose keys are tuples: the dict is not kept. -/
namespace RT
open PySem PySem.Spec PyProof.Rows L2
/-- each key once, at its first place -/
def firstK (l : List (List Key × Addr)) (acc : List (List Key × Addr) := []) : List (List Key × Addr) := l.foldl (fun acc p => if (acc.any fun q => decide (q.1 = p.1)) then acc else acc ++ [p]) acc
abbrev kaOf (x : List Key × Addr × Value) : List Key × Addr := (x.1, x.2.1)
section
variable {X : Cx}
/-- at p stands a pair: a tuple of plain keys at an address, and a value -/
def IsPair (K : PySem.W.Frag) (H : Hp) (p : Addr) (kv : List Key × Addr) : Prop := ∃ y, SqT K H p [.ref kv.2, y] ∧ SqT K H kv.2 (kv.1.map kV)
def tLstDict (K : PySem.W.Frag) (te : TE) : TE := fun σ H Q => te σ H fun v H1 => ∃ (a : Addr) (ps : List Addr) (kvs : List (List Key × Addr)), v = .ref a ∧ SqL K H1 a (ps.map V.ref) ∧ Paired (IsPair K H1) ps kvs ∧ ∀ q, H1 q = none → Q (.ref q) (upd H1 q (.lst ((firstK kvs).map fun x => V.ref x.2)))
def tLenDict (K : PySem.W.Frag) (te : TE) : TE := fun σ H Q => te σ H fun v H1 => ∃ (a : Addr) (ps : List Addr) (kvs : List (List Key × Addr)), v = .ref a ∧ SqL K H1 a (ps.map V.ref) ∧ Paired (IsPair K H1) ps kvs ∧ Q (.int (((firstK kvs).length : Nat) : Int)) H1
end
end RT

/-! part PV41 -/
/-! PV41: a chain of three comparisons, as a test and as a value. -/
namespace RT
open PySem PySem.Spec PyProof.Rows L2
section
variable {X : Cx} {a b c d : Expr} {ta tb tc td : TE} {pos : Pos}
def tChain3 (r r' r'' : R2) (ta tb tc td : TE) : TE := fun σ H Q => ta σ H fun x H1 => tb σ H1 fun y H2 => r x y H2 fun z H3 => ∃ k, z = .bl k ∧
  (if k = true then tc σ H3 fun w H4 => r' y w H4 fun z2 H5 => ∃ k2, z2 = .bl k2 ∧ (if k2 = true then td σ H5 fun t H6 => r'' w t H6 Q else Q (.bl false) H5) else Q (.bl false) H3)
end
end RT

/-! part PV40 -/
/-! PV40: list(dict(ps)), len(dict(ps)) in small terms. -/
namespace PV
open PySem PySem.Spec PyProof.Rows L2 LamX NdefX
section
variable {G : Gx} {w : Wd} {H : Hp}
theorem FR.key {d : D} {v : V} {k : Ky} (h : FR G w H d v) (e : keyO d = some k) : v = kV k := by
  cases h <;> simp [keyO] at e <;> subst e <;> rfl
theorem FRs.keys : ∀ {ds : List D} {vs : List V} {ks : List Ky}, FRs G w H ds vs → keysO ds = some ks → vs = ks.map kV
  | _, _, _, .nil, e => by cases e; rfl
  | _, _, _, .cons (d := d) (ds := ds) n a b, e => by
    rw [keysO] at e
    cases e1 : keyO d with
    | none => rw [e1] at e; cases e
    | some k =>
      cases e2 : keysO ds with
      | none => rw [e1, e2] at e; cases e
      | some ks =>
        rw [e1, e2] at e
        cases e
        rw [a.key e1, b.keys e2]
        rfl
/-- a key and its place -/
def KP (G : Gx) (w : Wd) (H : Hp) (p : List Ky × D) (q : List Ky × Addr) : Prop := p.1 = q.1 ∧ isR p.2 = false ∧ FR G w H p.2 (.ref q.2)
theorem FR.pair {d : D} {v : V} {p : List Ky × D} (h : FR G w H d v) (e : pairO d = some p) : ∃ a q, v = .ref a ∧ RT.IsPair G.K H a q ∧ KP G w H p q := by
  unfold pairO at e
  split at e
  · rename_i ds y
    cases e1 : keysO ds with
    | none => rw [e1] at e; cases e
    | some ks =>
      rw [e1] at e
      cases e
      cases h with
      | tup ha hs =>
        rename_i a vs
        cases hs with
        | cons n1 f1 r1 =>
          cases r1 with
          | cons n2 f2 r2 =>
            cases r2
            cases f1 with
            | tup hb hk =>
              rename_i b us
              have := hk.keys e1
              subst this
              exact ⟨a, (ks, b), rfl, ⟨_, ha.sqt, hb.sqt⟩, rfl, rfl, .tup hb hk⟩
  · cases e
theorem FRs.pairs : ∀ {ds : List D} {vs : List V} {l : List (List Ky × D)}, FRs G w H ds vs → pairsO ds = some l → ∃ ps kvs, vs = ps.map V.ref ∧ Paired (RT.IsPair G.K H) ps kvs ∧ Paired (KP G w H) l kvs
  | _, _, _, .nil, e => by cases e; exact ⟨[], [], rfl, .nil, .nil⟩
  | _, _, _, .cons (d := d) (ds := ds) n a b, e => by
    rw [pairsO] at e
    cases e1 : pairO d with
    | none => rw [e1] at e; cases e
    | some p =>
      cases e2 : pairsO ds with
      | none => rw [e1, e2] at e; cases e
      | some l =>
        rw [e1, e2] at e
        cases e
        obtain ⟨a1, q, rfl, h1, h2⟩ := a.pair e1
        obtain ⟨ps, kvs, rfl, h3, h4⟩ := b.pairs e2
        exact ⟨a1 :: ps, q :: kvs, rfl, .cons h1 h3, .cons h2 h4⟩
end
section
variable {X : Cx} {G : Gx} {P : Pr} {pos : Pos}
end
end PV

/-! part PV42 -/
/-! PV42: a chain of three comparisons as a test, in small terms. -/
noncomputable section
namespace PV
open PySem PySem.Spec PyProof.Rows L2 LamX NdefX
def ev4 (P : Pr) (a : E) (o1 : CmpOp) (b : E) (o2 : CmpOp) (c : E) (o3 : CmpOp) (d : E) (ρ : Env) : M Bool :=
  evE P a ρ >>= fun x => evE P b ρ >>= fun y => cmpD o1 x.2 y.2 >>= fun t => if t then evE P c ρ >>= fun z => cmpD o2 y.2 z.2 >>= fun u => if u then evE P d ρ >>= fun v => cmpD o3 z.2 v.2 else pure false else pure false
section
variable {X : Cx} {G : Gx} {P : Pr} {pos : Pos}
end
end PV

/-! part PV43 -/
/-! PV43: typed data: what is equal, what stands in order, least and greatest; small help. -/
namespace PV
open PySem L2

/-! ### order: data of one shape -/
inductive Sh where
  | i | s | t (l : List Sh)
mutual
def hs : Sh → D → Bool
  | .i, .int _ => true
  | .s, .str _ => true
  | .t ss, .tup ds => hss ss ds
  | _, _ => false
def hss : List Sh → List D → Bool
  | [], [] => true
  | a :: as, d :: ds => hs a d && hss as ds
  | _, _ => false
end
mutual
def dep : Sh → Nat
  | .i => 0
  | .s => 0
  | .t ss => deps ss + 1
def deps : List Sh → Nat
  | [] => 0
  | a :: as => max (dep a) (deps as)
end
mutual
theorem hs_toP : ∀ (a : Sh) (d : D), hs a d = true → ∃ p, toP d = some p ∧ p.depth ≤ dep a ∧ isNoneP p = false
  | .i, .int i, _ => ⟨_, by rw [toP], by simp [PyData.depth, dep], rfl⟩
  | .s, .str i, _ => ⟨_, by rw [toP], by simp [PyData.depth, dep], rfl⟩
  | .t ss, .tup ds, h => by
    rw [hs] at h
    obtain ⟨ps, e, h2⟩ := hss_toPs ss ds h
    exact ⟨.tuple ps, by rw [toP, e]; rfl, by rw [PyData.depth, dep]; omega, rfl⟩
  | .i, .non, h | .i, .bl _, h | .i, .str _, h | .i, .tup _, h | .i, .lst _, h | .i, .dic _, h | .i, .dit _, h | .i, .ins _ _, h | .i, .ref _, h | .i, .tx _, h => by simp [hs] at h
  | .s, .non, h | .s, .bl _, h | .s, .int _, h | .s, .tup _, h | .s, .lst _, h | .s, .dic _, h | .s, .dit _, h | .s, .ins _ _, h | .s, .ref _, h | .s, .tx _, h => by simp [hs] at h
  | .t _, .non, h | .t _, .bl _, h | .t _, .int _, h | .t _, .str _, h | .t _, .lst _, h | .t _, .dic _, h | .t _, .dit _, h | .t _, .ins _ _, h | .t _, .ref _, h | .t _, .tx _, h => by simp [hs] at h
theorem hss_toPs : ∀ (as : List Sh) (ds : List D), hss as ds = true → ∃ ps, toPs ds = some ps ∧ PyData.depthAll ps ≤ deps as
  | [], [], _ => ⟨[], by rw [toPs], by simp [PyData.depthAll, deps]⟩
  | a :: as, d :: ds, h => by
    rw [hss, Bool.and_eq_true] at h
    obtain ⟨p, e, h2, _⟩ := hs_toP a d h.1
    obtain ⟨ps, e', h3⟩ := hss_toPs as ds h.2
    exact ⟨p :: ps, by rw [toPs, e, e'], by rw [PyData.depthAll, deps]; omega⟩
  | [], _ :: _, h => by simp [hss] at h
  | _ :: _, [], h => by simp [hss] at h
end
mutual
theorem hs_alike : ∀ (a : Sh) (d d' : D) (p p' : PyData), hs a d = true → hs a d' = true → toP d = some p → toP d' = some p' → PySem.W.alike p p' = true
  | .i, d, d', p, p', h, h', e, e' => by
    cases d <;> simp [hs] at h
    cases d' <;> simp [hs] at h'
    simp [toP] at e e'
    subst e; subst e'
    simp [PySem.W.alike]
  | .s, d, d', p, p', h, h', e, e' => by
    cases d <;> simp [hs] at h
    cases d' <;> simp [hs] at h'
    simp [toP] at e e'
    subst e; subst e'
    simp [PySem.W.alike]
  | .t ss, d, d', p, p', h, h', e, e' => by
    cases d <;> simp [hs] at h
    cases d' <;> simp [hs] at h'
    obtain ⟨ps, k1, rfl⟩ := toP_tup e
    obtain ⟨qs, k2, rfl⟩ := toP_tup e'
    simp only [PySem.W.alike]
    exact hss_alike ss _ _ ps qs h h' k1 k2
theorem hss_alike : ∀ (as : List Sh) (ds ds' : List D) (ps ps' : List PyData), hss as ds = true → hss as ds' = true → toPs ds = some ps → toPs ds' = some ps' → PySem.W.alikeAll ps ps' = true
  | [], ds, ds', ps, ps', h, h', e, e' => by
    cases ds <;> simp [hss] at h
    cases ds' <;> simp [hss] at h'
    simp [toPs] at e e'
    subst e; subst e'
    simp [PySem.W.alikeAll]
  | a :: as, ds, ds', ps, ps', h, h', e, e' => by
    cases ds with
    | nil => simp [hss] at h
    | cons d ds =>
      cases ds' with
      | nil => simp [hss] at h'
      | cons d' ds' =>
        rw [hss, Bool.and_eq_true] at h h'
        obtain ⟨x, xs, h1, h2, rfl⟩ := toPs_cons e
        obtain ⟨y, ys, k1, k2, rfl⟩ := toPs_cons e'
        rw [PySem.W.alikeAll, hs_alike a d d' x y h.1 h'.1 h1 k1, hss_alike as ds ds' xs ys h.2 h'.2 h2 k2]
        rfl
end
/-! least and greatest of ints -/
def minI : List Int → Int
  | [] => 0
  | i :: l => l.foldl (fun a y => if y < a then y else a) i
def maxI : List Int → Int
  | [] => 0
  | i :: l => l.foldl (fun a y => if a < y then y else a) i
section
variable {st : Sto} {X : Nat → D → Sto → Prop} {Q : KD → Sto → Prop} {k : Kd}
end
/-! ### what is equal -/
/-- a way to write typed data: what differs is told apart -/
structure Enc {α : Type} (n : Nat) (e : α → D) : Prop where
  gn : ∀ x, gn n (e x) = true
  inj : ∀ x y, e x = e y → x = y
theorem map_inj' {α β : Type} {e : α → β} (h : ∀ x y, e x = e y → x = y) : ∀ l m : List α, l.map e = m.map e → l = m
  | [], [], _ => rfl
  | [], _ :: _, z => by simp at z
  | _ :: _, [], z => by simp at z
  | a :: l, b :: m, z => by
    simp only [List.map_cons, List.cons.injEq] at z
    rw [h a b z.1, map_inj' h l m z.2]
theorem Enc.int : Enc 0 D.int := ⟨fun _ => by simp [PV.gn], fun _ _ h => by simpa using h⟩
theorem Enc.lst {α : Type} {n : Nat} {e : α → D} (h : Enc n e) : Enc (n + 1) fun l : List α => D.lst (l.map e) :=
  ⟨fun l => by simp [PV.gn]; exact fun x _ => h.gn x, fun x y z => by
    simp at z
    exact map_inj' h.inj _ _ z⟩
theorem Enc.tup {α : Type} {n : Nat} {e : α → D} (h : Enc n e) : Enc (n + 1) fun l : List α => D.tup (l.map e) :=
  ⟨fun l => by simp [PV.gn]; exact fun x _ => h.gn x, fun x y z => by
    simp at z
    exact map_inj' h.inj _ _ z⟩
theorem gn_mono : ∀ {n m : Nat} (d : D), n ≤ m → gn n d = true → gn m d = true
  | _, _, .non, _, _ => by simp [gn]
  | _, _, .int _, _, _ => by simp [gn]
  | _, _, .str x, _, h => by simpa [gn] using h
  | n + 1, m + 1, .tup ds, hl, h => by
    simp only [gn, List.all_eq_true] at h ⊢
    exact fun d hd => gn_mono d (by omega) (h d hd)
  | n + 1, m + 1, .lst ds, hl, h => by
    simp only [gn, List.all_eq_true] at h ⊢
    exact fun d hd => gn_mono d (by omega) (h d hd)
  | n + 1, 0, _, hl, _ => by omega
  | 0, _, .tup ds, _, h => by simp [gn] at h
  | 0, _, .lst ds, _, h => by simp [gn] at h
  | _, _, .bl _, _, h => by simp [gn] at h
  | _, _, .dic _, _, h => by simp [gn] at h
  | _, _, .dit _, _, h => by simp [gn] at h
  | _, _, .ins _ _, _, h => by simp [gn] at h
  | _, _, .ref _, _, h => by simp [gn] at h
  | _, _, .tx _, _, h => by simp [gn] at h
theorem Enc.mono {α : Type} {n m : Nat} {e : α → D} (h : Enc n e) (l : n ≤ m) : Enc m e := ⟨fun x => gn_mono _ l (h.gn x), h.inj⟩
theorem Enc.pair {α β : Type} {n : Nat} {e : α → D} {f : β → D} (h : Enc n e) (k : Enc n f) : Enc (n + 1) fun p : α × β => D.tup [e p.1, f p.2] :=
  ⟨fun p => by simp [PV.gn, h.gn, k.gn], fun x y z => by
    simp at z
    exact Prod.ext (h.inj _ _ z.1) (k.inj _ _ z.2)⟩
theorem Enc.three {α β γ : Type} {n : Nat} {e : α → D} {f : β → D} {g : γ → D} (h : Enc n e) (k : Enc n f) (l : Enc n g) : Enc (n + 1) fun p : α × β × γ => D.tup [e p.1, f p.2.1, g p.2.2] :=
  ⟨fun p => by simp [PV.gn, h.gn, k.gn, l.gn], fun x y z => by
    simp at z
    exact Prod.ext (h.inj _ _ z.1) (Prod.ext (k.inj _ _ z.2.1) (l.inj _ _ z.2.2))⟩
theorem Enc.eq {α : Type} [DecidableEq α] {n : Nat} {e : α → D} (h : Enc n e) (hn : n ≤ 64) (x y : α) : eqD (e x) (e y) = some (decide (x = y)) := by
  by_cases c : x = y
  · subst c
    rw [eqD_self (gn_gd _ (h.gn x)) hn]
    simp
  · rw [eqD_ne (h.gn x) (h.gn y) hn hn fun z => c (h.inj _ _ z)]
    simp [c]
@[simp] theorem eqD_bl (a b : Bool) : eqD (.bl a) (.bl b) = some (decide (a = b)) := by cases a <;> cases b <;> decide
@[simp] theorem eqD_non : eqD .non .non = some true := by decide
abbrev t2 (p : Int × Int) : D := .tup [.int p.1, .int p.2]
abbrev t3 (p : Int × Int × Int) : D := .tup [.int p.1, .int p.2.1, .int p.2.2]
theorem Enc.t2 : Enc 1 t2 := Enc.int.pair Enc.int
theorem Enc.t3 : Enc 1 t3 := Enc.int.three Enc.int Enc.int
@[simp] theorem eqD_t2 (a b c d : Int) : eqD (.tup [.int a, .int b]) (.tup [.int c, .int d]) = some (decide (a = c ∧ b = d)) := by
  rw [show D.tup [.int a, .int b] = PV.t2 (a, b) from rfl, show D.tup [.int c, .int d] = PV.t2 (c, d) from rfl, Enc.t2.eq (by decide)]
  simp
@[simp] theorem eqD_t3 (a b c a' b' c' : Int) : eqD (.tup [.int a, .int b, .int c]) (.tup [.int a', .int b', .int c']) = some (decide (a = a' ∧ b = b' ∧ c = c')) := by
  rw [show D.tup [.int a, .int b, .int c] = PV.t3 (a, b, c) from rfl, show D.tup [.int a', .int b', .int c'] = PV.t3 (a', b', c') from rfl, Enc.t3.eq (by decide)]
  simp
/-- an int and a text differ, .. -/
@[simp] theorem eqD_int_str {i : Int} {s : String} (h : PyData.strOk (.ofString s) = true := by decide +kernel) : eqD (.int i) (.str (.ofString s)) = some false := eqD_ne (n := 0) (m := 0) (by simp [gn]) (by simpa [gn] using h) (by decide) (by decide) (by simp)
/-! ### statements, one at a time -/
def nxtL (P : Pr) (ss : List S) (Q : Fl × Env → Sto → Prop) (X : Nat → D → Sto → Prop) (r : Fl × Env) (s : Sto) : Prop := nxt P ss Q X r s
section
variable {P : Pr} {s : S} {ss : List S} {ρ : Env} {st : Sto} {Q : Fl × Env → Sto → Prop} {X : Nat → D → Sto → Prop}
theorem step (h : Wp (evS P s ρ) st (nxtL P ss Q X) X) : nxtL P (s :: ss) Q X (.nx, ρ) st := wp_ss_cons.mpr h
theorem stepN (h : Q (.nx, ρ) st) : nxtL P [] Q X (.nx, ρ) st := (wp_ss_nil (P := P) (X := X)).mpr h
@[simp] theorem nxtL_nil : nxtL P [] Q X (.nx, ρ) st ↔ Q (.nx, ρ) st := ⟨fun h => (wp_ss_nil (P := P) (X := X)).mp h, stepN⟩
@[simp] theorem nxtL_rt {d : D} : nxtL P ss Q X (.rt d, ρ) st ↔ Q (.rt d, ρ) st := Iff.rfl
end
theorem wp_val {α : Type} {m : M α} {v : α} {st : Sto} {X : Nat → D → Sto → Prop} {Q : α → Sto → Prop} (h : Wp m st (fun x s => x = v ∧ s = st) fun _ _ _ => False) (q : Q v st) : Wp m st Q X :=
  h.mono (fun a s ⟨e1, e2⟩ => by rw [e1, e2]; exact q) fun _ _ _ z => z.elim
section
variable {P : Pr} {ss : List S} {ρ : Env} {st : Sto} {Q : Fl × Env → Sto → Prop} {X : Nat → D → Sto → Prop}
/-- a check that is passed -/
theorem step_chk {c : E} {a : List S} (h : Wp (evE P c ρ) st (fun x s => x = (.fz, .bl false) ∧ s = st) fun _ _ _ => False) (q : nxtL P ss Q X (.nx, ρ) st) : nxtL P (.ite c a [] :: ss) Q X (.nx, ρ) st := by
  refine step ?_
  rw [wp_iteS]
  refine wp_val h ?_
  show (false = true → _) ∧ (false = false → _)
  exact ⟨fun z => absurd z (by decide), fun _ => (wp_ss_nil (P := P) (X := X)).mpr q⟩
end
@[simp] theorem wp_cmp4 {P : Pr} {ρ : Env} {st : Sto} {X : Nat → D → Sto → Prop} {Q : KD → Sto → Prop} {o1 o2 o3 : CmpOp} {a b c d : E} : Wp (evE P (.cmp4 a o1 b o2 c o3 d) ρ) st Q X ↔ Wp (evE P a ρ) st (fun x s => Wp (evE P b ρ) s (fun y s => Wp (cmpD o1 x.2 y.2) s (fun t s => (t = true → Wp (evE P c ρ) s (fun z s => Wp (cmpD o2 y.2 z.2) s (fun u s => (u = true → Wp (evE P d ρ) s (fun v s => Wp (cmpD o3 z.2 v.2) s (fun r s => Q (.fz, .bl r) s) X) X) ∧ (u = false → Q (.fz, .bl false) s)) X) X) ∧ (t = false → Q (.fz, .bl false) s)) X) X) X := by
  rw [evE]; simp only [wp_bind, wp_ite, wp_pure, Bool.not_eq_true]
@[simp] theorem wp_isN {a : D} {st : Sto} {X : Nat → D → Sto → Prop} {Q : Bool → Sto → Prop} : Wp (cmpD .Is a .non) st Q X ↔ Q (isNonD a) st := by cases a <;> exact Iff.rfl
@[simp] theorem wp_isNN {a : D} {st : Sto} {X : Nat → D → Sto → Prop} {Q : Bool → Sto → Prop} : Wp (cmpD .IsNot a .non) st Q X ↔ Q (!isNonD a) st := by cases a <;> exact Iff.rfl
@[simp] theorem isNonD_non : isNonD .non = true := rfl
@[simp] theorem isNonD_int (i : Int) : isNonD (.int i) = false := rfl
@[simp] theorem isNonD_str (i : Str) : isNonD (.str i) = false := rfl
@[simp] theorem isNonD_tup (i : List D) : isNonD (.tup i) = false := rfl
@[simp] theorem isNonD_lst (i : List D) : isNonD (.lst i) = false := rfl
@[simp] theorem putLB_int (l : Nat) (i : Int) : putLB l (.fz, .int i) = true := by simp [putLB]
@[simp] theorem putLB_str (l : Nat) (i : Str) : putLB l (.fz, .str i) = true := by simp [putLB]
@[simp] theorem putLB_tup (l : Nat) (ds : List D) : putLB l (.fz, .tup ds) = true := by simp [putLB]
@[simp] theorem atI_20 (x y : D) : L2.atI [x, y] 0 = some x := rfl
@[simp] theorem atI_21 (x y : D) : L2.atI [x, y] 1 = some y := rfl
@[simp] theorem atI_30 (x y z : D) : L2.atI [x, y, z] 0 = some x := rfl
@[simp] theorem atI_31 (x y z : D) : L2.atI [x, y, z] 1 = some y := rfl
@[simp] theorem atI_32 (x y z : D) : L2.atI [x, y, z] 2 = some z := rfl
theorem mulOk_l {i j : Int} (h : -1000000000000 ≤ i ∧ i ≤ 1000000000000) : mulOk i j = true := by simp [mulOk]; omega
theorem mulOk_r {i j : Int} (h : -1000000000000 ≤ j ∧ j ≤ 1000000000000) : mulOk i j = true := by simp [mulOk]; omega
theorem divOk_of {j : Int} (h : 0 < j ∧ j < 1073741824) : divOk j = true := by simpa [divOk] using h
theorem szOk_of {n : Nat} (h : n ≤ 16777216) : szOk n = true := by simpa [szOk] using h
@[simp] theorem rangeI_zero (lo : Int) : rangeI lo 0 = [] := rfl
/-- item by place, from behind too -/
def gI {α : Type} [Inhabited α] (l : List α) (i : Int) : α := l.getD (if i < 0 then i + l.length else i).toNat default
/-- a for, from its start on: what holds behind the first ones holds behind the next -/
theorem wp_for_pre {α : Type} {b : D → Env → M (Fl × Env)} {g : α → D} {E : List α → Env → Sto → Prop} {Q : Fl × Env → Sto → Prop} {X : Nat → D → Sto → Prop} (xs : List α) (ρ : Env) (st : Sto) (h : E [] ρ st)
    (s : ∀ done x rest ρ st, xs = done ++ x :: rest → E done ρ st → Wp (b (g x) ρ) st (fun r s => match r.1 with
      | .nx => E (done ++ [x]) r.2 s
      | .ct => E (done ++ [x]) r.2 s
      | .bk => Q (.nx, r.2) s
      | .rt d => Q (.rt d, r.2) s) X) (q : ∀ ρ st, E xs ρ st → Q (.nx, ρ) st) : Wp (forM' b (xs.map g) ρ) st Q X :=
  wp_for_map (I := fun l ρ s => ∃ done, xs = done ++ l ∧ E done ρ s) xs ρ st ⟨[], rfl, h⟩ (fun x l ρ st ⟨done, e, h⟩ => (s done x l ρ st e h).mono (fun r s h => by
    obtain ⟨f, ρ1⟩ := r
    cases f with
    | nx => exact ⟨done ++ [x], by simp [e], h⟩
    | ct => exact ⟨done ++ [x], by simp [e], h⟩
    | bk => exact h
    | rt d => exact h) fun _ _ _ h => h) fun ρ st ⟨done, e, h⟩ => q ρ st (by rw [e]; simpa using h)
end PV

/-! part PV44 -/
/-! PV44: sorted, index, join, ranges in small terms. -/
namespace PV
open PySem PySem.W PySem.Spec PyProof.Rows L2 LamX NdefX
section
variable {G : Gx} {w : Wd} {H : Hp}
end
section
variable {X : Cx} {G : Gx} {P : Pr} {pos : Pos} {p : Expr} {ps : List Expr} {es : List E} {q : Pos}
variable {a b c : Expr} {p2 pos2 : Pos}
/-! methods of lists, tuples, texts -/
theorem evE_mc {m : Mth} {o : E} {es : List E} {ρ : Env} : evE P (.mc m o es) ρ = evE P o ρ >>= fun x => if okM m x.2 then evEs P es ρ >>= fun ys => mcD m x ys else no := by rw [evE]
end
end PV

/-! part PV45 -/
/-! PV45: a lambda of one parameter, called by a built-in; min by a key. -/
namespace L2
open PySem PySem.W PySem.Spec PyProof.Rows LamX NdefX
/-- one parameter, no other name of its own: captured ones and globals -/
structure LamS1 (sc scope : Scope) (x : Str) : Prop where
  kind : scope.kind = .function
  co : scope.isCoroutine = false
  gen : scope.isGenerator = false
  own : ∀ y ∈ scope.names, (y.2 = .local → y.1 = x) ∧ y.2 ≠ .cell
  par : scope.names.lookup x = some .local
  free : ∀ y ∈ scope.names, y.2 = .free → sc.names.lookup y.1 = some .cell ∨ sc.names.lookup y.1 = some .free
  noE : ∀ y ∈ scope.names, y.1 ≠ ""
/-- the function's own name of the same letters is out of sight in the lambda -/
def hideN (N : List Str) (x : Str) : List Str := N.map fun y => if y = x then "" else y
def lamS1B (sc scope : Scope) (x : Str) : Bool :=
  decide (scope.kind = .function) && !scope.isCoroutine && !scope.isGenerator && decide (scope.names.lookup x = some .local) && (scope.names.all fun y => !decide (y.1 = "")) && scope.names.all fun y => (!decide (y.2 = .local) || decide (y.1 = x)) && !decide (y.2 = .cell) && (!decide (y.2 = .free) || decide (sc.names.lookup y.1 = some .cell) || decide (sc.names.lookup y.1 = some .free))
theorem LamS1.has {X : Cx} {scope : Scope} {x : Str} (L : LamS1 X.env.scope scope x) (ok : X.Ok) : ∀ y ∈ scope.names, y.2 = .free → ∃ c, X.env.cells.lookup y.1 = some c := fun y hy e => by
  rcases L.free y hy e with k | k
  · exact ok.has _ (.inl k)
  · exact ok.has _ (.inr k)
/-- the context of such a lambda's body -/
def lam1Cx (X : Cx) (A : Around) (outer : List Env) (s : Shared) (H : Hp) (E : XK) (scope : Scope) (f c' : Addr) (x : Str) : Cx where
  prog := X.prog
  w := X.w
  K := X.K
  mg := X.mg
  base := X.base
  A := A.deeper (lamEnv X scope s.heap.objs.size f c')
  N := hideN X.N x ++ [x]
  s_0 := s
  H_0 := H
  env := lamEnv X scope s.heap.objs.size f c'
  outer := outer
  stack := lamEnv X scope s.heap.objs.size f c' :: outer
  ex := []
  fn := fun _ => false
  calm := true
  pn := []
  xe := fun e s' => wpAny (model X.prog X.w) (A.deeper (lamEnv X scope s.heap.objs.size f c')) (leaving (lamEnv X scope s.heap.objs.size f c') e) (fun _ s'' => L2.CX X.prog X.w outer H s E e s'') (fun e' s'' => L2.CX X.prog X.w outer H s E e' s'') s'
section
variable {X : Cx} {pins : List (Addr × Obj)} {σ : L2.St} {H HZ : Hp} {s s1 : Shared}
/-! ### walking a list or a tuple whose items are known -/
def WalkL (N l : Addr) (xs : List V) (i : Nat) (s : Shared) : Prop := ∃ its : List Value, Vals xs its ∧ s.heap.IsListIter N l i ∧ s.heap.IsList l its.toArray
def WalkT (N l : Addr) (xs : List V) (i : Nat) (s : Shared) : Prop := ∃ its : List Value, Vals xs its ∧ s.heap.IsTupleIter N l i ∧ s.heap.IsTuple l its.toArray
def ItemV (xs : List V) (i : Nat) (v : Value) : Prop := ∃ x, xs[i]? = some x ∧ RelV x v
variable {prog : Program} {w : World} {A : Around}
end
end L2

/-! part PV46 -/
/-! PV46: min by a key in small terms; a = b = literal. -/
noncomputable section
namespace PV
open PySem PySem.W PySem.Spec PyProof.Rows L2 LamX NdefX
section
variable {G : Gx} {w : Wd} {H : Hp}
mutual
theorem VR.noext : ∀ {l : Nat} {O : List Addr} {d : D} {v : V}, VR G w H l O d v → ∀ a ∈ O, ∀ p, H a ≠ some (.ext p)
  | _, _, _, _, .zero _ => by simp
  | _, _, _, _, .nc _ _ => by simp
  | _, _, _, _, .lst h hf hn hs => fun b hb p => by
    rcases List.mem_cons.mp hb with rfl | hb
    · rw [h]; intro e; cases e
    · exact VRs.noext hs b hb p
  | _, _, _, _, .dic h hf hn hs => fun b hb p => by
    rcases List.mem_cons.mp hb with rfl | hb
    · rw [h]; intro e; cases e
    · exact VRs.noext hs b hb p
  | _, _, _, _, .dit h hf hn hs => fun b hb p => by
    rcases List.mem_cons.mp hb with rfl | hb
    · rw [h]; intro e; cases e
    · exact VRs.noext hs b hb p
theorem VRs.noext : ∀ {l : Nat} {O : List Addr} {ds : List D} {vs : List V}, VRs G w H l O ds vs → ∀ a ∈ O, ∀ p, H a ≠ some (.ext p)
  | _, _, _, _, .nil => by simp
  | _, _, _, _, .cons _ h hs => fun b hb => (List.mem_append.mp hb).elim (VR.noext h b) (VRs.noext hs b)
end
theorem FDs.noext : ∀ {xs : List (Nat × D)} {vs : List V} {O : List Addr}, FDs G w H xs vs O → ∀ a ∈ O, ∀ p, H a ≠ some (.ext p)
  | _, _, _, .nil => by simp
  | _, _, _, .cons _ h hs => fun b hb => (List.mem_append.mp hb).elim (h.noext b) (FDs.noext hs b)
theorem NRs.noext : ∀ {st : Sto} {as O : List Addr}, NRs G w H st as O → ∀ a, a ∈ as ∨ a ∈ O → ∀ p, H a ≠ some (.ext p)
  | _, _, _, .nil => by simp
  | _, _, _, .cons (.nl h hs) r => fun b hb p => by
    rcases hb with hb | hb
    · rcases List.mem_cons.mp hb with rfl | hb
      · rw [h]; intro e; cases e
      · exact NRs.noext r b (.inl hb) p
    · exact NRs.noext r b (.inr (by simpa using hb)) p
  | _, _, _, .cons (.ni h hc hl hs) r => fun b hb p => by
    rcases hb with hb | hb
    · rcases List.mem_cons.mp hb with rfl | hb
      · rw [h]; intro e; cases e
      · exact NRs.noext r b (.inl hb) p
    · rcases List.mem_append.mp hb with hb | hb
      · exact hs.noext b hb p
      · exact NRs.noext r b (.inr hb) p
  | _, _, _, .cons (.nk t h hc hl hs hz) r => fun b hb p => by
    rcases hb with hb | hb
    · rcases List.mem_cons.mp hb with rfl | hb
      · rw [h]; intro e; cases e
      · exact NRs.noext r b (.inl hb) p
    · rcases List.mem_append.mp hb with hb | hb
      · intro e
        exact hs.noext b hb p (unf_some e)
      · exact NRs.noext r b (.inr hb) p
  | _, _, _, .cons (.nd t h hs) r => fun b hb p => by
    rcases hb with hb | hb
    · rcases List.mem_cons.mp hb with rfl | hb
      · rw [h]; intro e; cases e
      · exact NRs.noext r b (.inl hb) p
    · exact NRs.noext r b (.inr (by simpa using hb)) p
theorem SL.snoc {d : D} {v : V} (hd : FR G w H d v) : ∀ {σ : L2.St} {ρ : Env} {Os : List (List Addr)}, SL G w H σ ρ Os → SL G w H (σ ++ [some v]) (ρ ++ [some (0, d)]) (Os ++ [[]])
  | _, _, _, .nil => .so (.zero hd) .nil
  | _, _, _, .no h => .no (SL.snoc hd h)
  | _, _, _, .so hv h => .so hv (SL.snoc hd h)
theorem Gd.snoc {σ : L2.St} {ρ : Env} {Os : List (List Addr)} {st : Sto} {d : D} {v : V} (g : Gd G w H σ ρ Os st) (hd : FR G w H d v) : Gd G w H (σ ++ [some v]) (ρ ++ [some (0, d)]) (Os ++ [[]]) st :=
  ⟨g.s, g.sl.snoc hd, by simpa using g.nd, by simpa using g.ap⟩
theorem Gd.frz {σ : L2.St} {ρ : Env} {Os : List (List Addr)} {st : Sto} {H0 : Hp} {O : List Addr} (g : Gd G w H σ ρ Os st) (own : Own w H H0 O) (hd : ∀ b ∈ Os.flatten, H0 b ≠ none) : Gd G (w.frz O) H σ ρ Os st :=
  ⟨g.s.frz own, g.sl.apart fun b z z' => hd b z (own b z').1, g.nd, g.ap⟩
end
section
variable {X : Cx} {G : Gx} {P : Pr} {pos : Pos}
end
end PV

/-! part PV47 -/
/-! PV47: dict(e), e a list of pairs; a = b = literal. -/
noncomputable section
namespace PV
open PySem PySem.W PySem.Spec PyProof.Rows L2 LamX NdefX
section
variable {β γ : Type}
def putG (l : List (Ky × β)) (k : Ky) (b : β) : List (Ky × β) := if l.any fun kv => decide (kv.1 = k) then l.map fun kv => if kv.1 = k then (kv.1, b) else kv else l ++ [(k, b)]
def mergeG (l ps : List (Ky × β)) : List (Ky × β) := ps.foldl (fun acc p => putG acc p.1 p.2) l
end
section
variable {G : Gx} {w : Wd} {H : Hp}
end
section
variable {X : Cx} {G : Gx} {P : Pr} {pos : Pos} {p : Expr} {ps : List Expr} {es : List E} {q : Pos}
end
/-! ### while -/
def fuel : Nat := 1000000
end PV

/-! part PV48 -/
/-! PV48: an own object is written; dict literals; d.get; d[k] = v; x = l.pop(k). -/
noncomputable section
namespace PV
open PySem PySem.W PySem.Spec PyProof.Rows L2 LamX NdefX
section
variable {G : Gx} {w : Wd} {H : Hp}
/-- neither a table nor a foreign object -/
def PlainO (o : HO) : Prop := (∀ ps, o ≠ .tbl ps) ∧ (∀ p, o ≠ .ext p) ∧ ∀ vs, o ≠ .tup vs
theorem tabsN_mvG {T : List NTab} {D : Addr} {u0 u1 : HO} (hD : H D = some u0) (p0 : PlainO u0) (t : TabsN T H) : TabsN T (upd H D u1) := fun p hp => by
  obtain ⟨ps, h1, h2, h3⟩ := t p hp
  refine ⟨ps, by rw [upd_ne (fun z => by rw [z, hD] at h1; exact p0.1 _ (Option.some.inj h1))]; exact h1, h2, fun pos cv hc => ?_⟩
  obtain ⟨c, e1, e2⟩ := h3 pos cv hc
  exact ⟨c, e1, by rw [upd_ne (fun z => by rw [z, hD] at e2; exact p0.2.1 _ (Option.some.inj e2))]; exact e2⟩
theorem some_mvG {D : Addr} {u1 : HO} {a : Addr} (p1 : PlainO u1) (h : ∃ o, H a = some o ∧ ∀ ps, o ≠ .tbl ps) : ∃ o, upd H D u1 a = some o ∧ ∀ ps, o ≠ .tbl ps := by
  by_cases c : a = D
  · subst c
    exact ⟨_, upd_same, p1.1⟩
  · rw [upd_ne c]; exact h
end
/-! ### dict literals -/
def trsOf (G : Gx) (P : Pr) (W : WX) (ks : List Ky) (es : List E) : List (TE × TE) := (ks.zip es).map fun p => ((fun σ H Q => Q (kV p.1) H : TE), tE G P W p.2)
def DPs (X : Cx) (G : Gx) (P : Pr) (pos : Pos) (keys : List (Option Expr)) (values : List Expr) (ks : List Ky) (es : List E) : Prop := ∀ W, TkM P.nm X W → PPs X pos keys values (trsOf G P W ks es)
section
variable {X : Cx} {G : Gx} {P : Pr} {pos : Pos}
theorem evE_dlit {ks : List Ky} {es : List E} {ρ : Env} : evE P (.dlit ks es) ρ = evEs P es ρ >>= fun xs => keeps xs >>= fun ds => if ks.length = es.length then pure (.fr 1, .dic (mergeD [] (ks.zip ds))) else no := by rw [evE]
end
end PV

/-! part PV49 -/
/-! PV49: {}; d.get(k, z); d[k] = v. -/
noncomputable section
namespace PV
open PySem PySem.W PySem.Spec PyProof.Rows L2 LamX NdefX
section
variable {X : Cx} {G : Gx} {P : Pr} {pos : Pos}
end
end PV

/-! part PV50 -/
/-! PV50: x = l.pop(k); sorted(x, reverse=True); reversed(x) walked in a comprehension. -/
noncomputable section
namespace PV
open PySem PySem.W PySem.Spec PyProof.Rows L2 LamX NdefX
section
variable {G : Gx} {w : Wd} {H : Hp}
end
section
variable {X : Cx} {G : Gx} {P : Pr} {pos : Pos}
end
end PV

/-! part PV51 -/
/-! PV51: sorted(d) of a dict whose keys are alike (the raw rule). -/
noncomputable section
namespace RT
open PySem PySem.W PySem.Spec PyProof.Rows L2
def keyP : Key → PyData
  | .inl i => .int i
  | .inr x => .str x
def rSortDic : List V → Hp → VK → Prop := fun vs H Q => ∃ (a : Addr) (kvs : List (Key × V)), vs = [.ref a] ∧ Rd H a (.dK kvs) ∧ AllAlike (kvs.map fun kv => keyP kv.1) ∧ Sortable (kvs.map fun kv => keyP kv.1) ∧
  ∀ q, H q = none → Q (.ref q) (upd H q (.lst (((((kvs.map (·.1)).map kV).zip ((kvs.map (·.1)).map keyP)).mergeSort (dataLe false (·.2))).map (·.1))))
section
variable {X : Cx}
end
end RT

/-! part PV52 -/
/-! PV52: sorted(x) in small terms: lists, tuples, dicts. -/
noncomputable section
theorem _root_.L2.Room.u1 {k : Nat} {A : PySem.Around} (r : L2.Room k A) : A.units + 1 < PySem.cLine := by have := r.un; omega
namespace PV
open PySem PySem.W PySem.Spec PyProof.Rows L2 LamX NdefX
section
variable {X : Cx} {G : Gx} {P : Pr} {pos : Pos} {p : Expr} {ps : List Expr} {es : List E} {q : Pos}
end
end PV

/-! part PV53 -/
/-! PV53: tuple(range(j)). -/
noncomputable section
namespace RT
open PySem PySem.W PySem.Spec PyProof.Rows L2
section
variable {X : Cx} {a : Expr} {ta : TA} {p pos p2 pos2 : Pos}
def tTrg1 (ta : TA) : TE := fun σ H Q => ta σ H fun vs H1 => ∃ j : Int, vs = [.int j] ∧ RgC3 0 j 1 ∧ ∀ q, H1 q = none → Q (.ref q) (upd H1 q (.tup ((rangeC 0 1 (rngN 0 j 1)).map .int)))
end
end RT
namespace PV
open PySem PySem.W PySem.Spec PyProof.Rows L2 LamX NdefX
section
variable {X : Cx} {G : Gx} {P : Pr} {pos : Pos} {a : Expr} {p2 pos2 : Pos}
end
end PV

/-! part PV54 -/
/-! PV54: an item of an own list is written in place. -/
noncomputable section
namespace PV
open PySem PySem.W PySem.Spec PyProof.Rows L2 LamX NdefX
section
variable {G : Gx} {w : Wd} {H : Hp}
/-- one item of several is held by its own part -/
theorem VRs.item : ∀ {l : Nat} {O : List Addr} {ds : List D} {vs : List V} {j : Nat} {d : D}, VRs G w H l O ds vs → ds[j]? = some d → ∃ v Oj, vs[j]? = some v ∧ VR G w H l Oj d v ∧ (∀ c ∈ Oj, c ∈ O) ∧
    ∀ {H' : Hp} {b : Addr} {d1 : D}, Mv w H H' b → O.Nodup → b ∈ Oj → isR d1 = false → VR G w H' l Oj d1 v → VRs G w H' l O (ds.set j d1) vs
  | _, _, _, _, j, d, .nil, e => by simp at e
  | _, _, _, _, 0, d, .cons (O := O1) (O' := O2) n h hs, e => by
    simp at e
    subst e
    exact ⟨_, O1, rfl, h, fun c hc => List.mem_append_left _ hc, fun m nd hb hr hn => .cons hr hn (hs.mv m fun z => (List.nodup_append.mp nd).2.2 _ hb _ z rfl)⟩
  | _, _, _, _, j + 1, d, .cons (O := O1) (O' := O2) n h hs, e => by
    obtain ⟨v, Oj, e1, h1, sub, k⟩ := VRs.item hs (by simpa using e)
    exact ⟨v, Oj, by simpa using e1, h1, fun c hc => List.mem_append_right _ (sub c hc), fun m nd hb hr hn => .cons n (h.mv m fun z => (List.nodup_append.mp nd).2.2 _ z _ (sub _ hb) rfl) (k m (List.nodup_append.mp nd).2.1 hb hr hn)⟩
end
end PV

/-! part PV55 -/
/-! PV55: x[k].append(e), x's lists one's own. -/
noncomputable section
namespace PV
open PySem PySem.W PySem.Spec PyProof.Rows L2 LamX NdefX
section
variable {X : Cx} {G : Gx} {P : Pr} {pos : Pos}
end
end PV

/-! part PV56 -/
/-! PV56: the new things run in plain terms. -/
noncomputable section
namespace PV
open PySem L2
section
variable {P : Pr} {ρ : Env} {st : Sto} {X : Nat → D → Sto → Prop}
@[simp] theorem wp_dlit {Q : KD → Sto → Prop} {ks : List Ky} {es : List E} : Wp (evE P (.dlit ks es) ρ) st Q X ↔ Wp (evEs P es ρ) st (fun xs s => keepsB xs = true ∧ ks.length = es.length ∧ Q (.fr 1, .dic (mergeD [] (ks.zip (xs.map (·.2))))) s) X := by
  rw [evE_dlit]
  simp only [wp_bind, keeps, wp_ifno, wp_pure]
@[simp] theorem wp_dputS {Q : Fl × Env → Sto → Prop} {i : Nat} {k e : E} : Wp (evS P (.dput i k e) ρ) st Q X ↔ Wp (evE P e ρ) st (fun y s => Wp (slotD ρ i) s (fun x s => Wp (ofO (ownD x)) s (fun kvs s => Wp (evE P k ρ) s (fun z s => Wp (ofO (keyO z.2)) s (fun kk s => putB y = true ∧ szOk (kvs.length + 1) = true ∧ Q (.nx, ρ.set i (some (1, .dic (setK kvs kk y.2)))) s) X) X) X) X) X := by
  rw [evS]
  simp only [wp_bind, put, wp_ifno, wp_pure]
@[simp] theorem wp_frzS {Q : Fl × Env → Sto → Prop} {i : Nat} : Wp (evS P (.frz i) ρ) st Q X ↔ Wp (slotD ρ i) st (fun x s => Q (.nx, ρ.set i (some (0, x.2))) s) X := by
  rw [evS]
  simp only [wp_bind, wp_pure]
@[simp] theorem wp_popaS {Q : Fl × Env → Sto → Prop} {i j : Nat} {k : E} : Wp (evS P (.popa j i k) ρ) st Q X ↔ Wp (slotD ρ i) st (fun x s => Wp (ofO (ownL1 x)) s (fun ds s => Wp (evE P k ρ) s (fun z s => Wp (ofO (intO z.2)) s (fun n s => Wp (ofO (L2.ixN ds.length n)) s (fun m s => Wp (ofO ds[m]?) s (fun d s => (decide (-(2 ^ 62) ≤ n ∧ n < 2 ^ 62) = true ∧ j ≠ i) ∧ Q (.nx, (ρ.set i (some (1, .lst (ds.eraseIdx m)))).set j (some (0, d))) s) X) X) X) X) X) X := by
  rw [evS]
  simp only [wp_bind, wp_ifno, wp_pure]
@[simp] theorem wp_appiS {Q : Fl × Env → Sto → Prop} {i : Nat} {k e : E} : Wp (evS P (.appi i k e) ρ) st Q X ↔ Wp (slotD ρ i) st (fun x s => Wp (ofO (ownL2 x)) s (fun ds s => Wp (evE P k ρ) s (fun z s => Wp (ofO (intO z.2)) s (fun n s => Wp (ofO (L2.ixN ds.length n)) s (fun m s => Wp (ofO ds[m]?) s (fun d0 s => Wp (ofO (lstO d0)) s (fun es s => Wp (evE P e ρ) s (fun y s => putB y = true ∧ szOk (es.length + 1) = true ∧ Q (.nx, ρ.set i (some (2, .lst (ds.set m (.lst (es ++ [y.2])))))) s) X) X) X) X) X) X) X) X := by
  rw [evS]
  simp only [wp_bind, put, wp_ifno, wp_pure]
section
variable {Q : KD → Sto → Prop} {k : Kd}
@[simp] theorem wp_trg1 {j : Int} : Wp (biD .trg1 [(k, .int j)]) st Q X ↔ (szOk j.toNat = true ∧ -(2 ^ 61) ≤ j) ∧ Q (.fz, .tup ((rangeI 0 j.toNat).map .int)) st := wp_ifno
@[simp] theorem wp_listDic {kvs : List (Ky × D)} : Wp (biD .list [(k, .dic kvs)]) st Q X ↔ Q (.fr 1, .lst (kvs.map fun p => keyD p.1)) st := Iff.rfl
@[simp] theorem wp_itRev {Q : List D → Sto → Prop} {ds : List D} : Wp (itD .rev [(k, .lst ds)]) st Q X ↔ viewB k = true ∧ Q ds.reverse st := by
  show Wp (view (k, .lst ds) >>= fun d => ofO (seqO d) >>= fun ds => pure ds.reverse) st Q X ↔ _
  simp only [wp_bind, view, wp_ifno, wp_pure]
  exact Iff.rfl
@[simp] theorem wp_idxDicS {kvs : List (Ky × D)} {x : Str} : Wp (idxD (k, .dic kvs) (.str x)) st Q X ↔ Wp (ofO (getK (.inr x) kvs)) st (fun d s => Q (itemK k d) s) X := by
  show Wp (ofO ((((some (Sum.inr x : Ky)).map fun k => getK k kvs).bind id).map fun d => itemK k d)) st Q X ↔ _
  simp only [Option.map_some, Option.bind_some, id]
  cases getK (.inr x) kvs <;> simp
@[simp] theorem wp_idxDicI {kvs : List (Ky × D)} {x : Int} : Wp (idxD (k, .dic kvs) (.int x)) st Q X ↔ Wp (ofO (getK (.inl x) kvs)) st (fun d s => Q (itemK k d) s) X := by
  show Wp (ofO ((((some (Sum.inl x : Ky)).map fun k => getK k kvs).bind id).map fun d => itemK k d)) st Q X ↔ _
  simp only [Option.map_some, Option.bind_some, id]
  cases getK (.inl x) kvs <;> simp
@[simp] theorem wp_lenDic {kvs : List (Ky × D)} : Wp (biD .len [(k, .dic kvs)]) st Q X ↔ Q (.fz, .int kvs.length) st := Iff.rfl
end
end
end PV

/-! part PV57 -/
/-! PV57: plain help, taken out of k05's mathematics. -/
noncomputable section
namespace PV
open PySem L2
theorem stepB {P : Pr} {ss : List S} {ρ : Env} {st : Sto} {Q : Fl × Env → Sto → Prop} {X : Nat → D → Sto → Prop} (h : nxtL P ss Q X (.nx, ρ) st) : Wp (evSs P ss ρ) st Q X := h
def okS (x : Str) : Prop := gn 0 (.str x) = true
theorem eqD_names {x y : Str} (hx : okS x) (hy : okS y) : eqD (.str x) (.str y) = some (decide (x = y)) := by
  by_cases c : x = y
  · subst c
    rw [eqD_self (gn_gd _ hx) (by decide)]
    simp
  · rw [eqD_ne hx hy (by decide) (by decide) fun z => c (by simpa using z)]
    simp [c]
section
variable {st : Sto} {X : Nat → D → Sto → Prop} {Q : KD → Sto → Prop} {k : Kd}
end
def amin (ks : List Int) : Nat := PySem.argBest (fun i j => decide (ks.getD i 0 < ks.getD j 0)) (ks.length - 1)
section
variable {P : Pr} {ρ : Env} {st : Sto} {X : Nat → D → Sto → Prop} {Q : KD → Sto → Prop}
end
section
variable {st : Sto} {X : Nat → D → Sto → Prop} {Q : KD → Sto → Prop} {k : Kd}
end
@[simp] theorem putLB_fr1 {ds : List D} : putLB 1 (Kd.fr 1, D.lst ds) = true := by rfl
@[simp] theorem ownD_dic (kvs : List (Ky × D)) : ownD (1, .dic kvs) = some kvs := rfl
@[simp] theorem ownL1_lst (ds : List D) : ownL1 (1, .lst ds) = some ds := rfl
@[simp] theorem ownL2_lst (ds : List D) : ownL2 (2, .lst ds) = some ds := rfl
@[simp] theorem lstO_lst (ds : List D) : lstO (.lst ds) = some ds := rfl
end PV

/-! part PV58 -/
/-! PV58: x[k] += e on an own dict, ints. -/
noncomputable section
namespace PV
open PySem PySem.W PySem.Spec PyProof.Rows L2 LamX NdefX
section
variable {X : Cx} {G : Gx} {P : Pr} {pos : Pos}
end
end PV

/-! part PV59 -/
/-! PV59: sorted(x, key=lambda): the raw rules and the core. -/
noncomputable section
namespace L2
open PySem PySem.W PySem.Spec PyProof.Rows LamX NdefX
variable {X : Cx} {pins : List (Addr × Obj)} {σ : L2.St} {H HZ : Hp} {s s1 : Shared}
end L2
namespace RT
open PySem PySem.W PySem.Spec PyProof.Rows L2
section
variable {prog : Program} {w : World} {A : Around} {E : Value → Shared → Prop} {s : Shared} {P : PySem.Fin → Shared → Prop}
/-- the keys' list is out of sight -/
def hide (h : Heap) (k : Addr) : Heap := h.update k fun o => { o with data := .freed }
end
end RT

/-! part PV60 -/
/-! PV60: sorted(x, key=lambda) in small terms. -/
noncomputable section
namespace PV
open PySem PySem.W PySem.Spec PyProof.Rows L2 LamX NdefX
section
variable {G : Gx} {w : Wd} {H : Hp}
end
section
variable {X : Cx} {G : Gx} {P : Pr} {pos : Pos}
end
end PV

/-! part PV61 -/
/-! PV61: sorted(x, key=lambda), sorted(range(n), key=lambda): the rules. -/
noncomputable section
namespace PV
open PySem PySem.W PySem.Spec PyProof.Rows L2 LamX NdefX
section
variable {X : Cx} {G : Gx} {P : Pr} {pos : Pos}
end
end PV

/-! part PV62 -/
/-! PV62: sorted(x, reverse=True) of lists and tuples; running sorted by keys. -/
noncomputable section
namespace RT
open PySem PySem.W PySem.Spec PyProof.Rows L2
variable {X : Cx}
def rSortRT (K : PySem.W.Frag) : List V → List V → Hp → VK → Prop := fun vs zs H Q => ∃ (a : Addr) (ns : List Int), vs = [V.ref a] ∧ zs = [.bl true] ∧ SqT K H a (ns.map V.int) ∧
  ∀ (ns' : List Int) (p : Addr), ns'.Perm ns → OrdB true ns' → H p = none → Q (.ref p) (upd H p (.lst (ns'.map V.int)))
end RT
namespace PV
open PySem PySem.W PySem.Spec PyProof.Rows L2 LamX NdefX
section
variable {X : Cx} {G : Gx} {P : Pr} {pos : Pos}
end
end PV

/-! part PV63 -/
/-! PV63: running sorted by keys. -/
noncomputable section
namespace PV
open PySem L2
def ordE {α : Type} (f : α → D) (l : List α) : List α := l.mergeSort fun a b => !ltD (f b) (f a)
section
variable {st : Sto} {X : Nat → D → Sto → Prop} {Q : KD → Sto → Prop} {k : Kd}
end
section
variable {P : Pr} {ρ : Env} {st : Sto} {X : Nat → D → Sto → Prop} {Q : KD → Sto → Prop}
end
/-- two whole numbers as a key -/
abbrev key2 (g : Int → Int) (k : Int) : D := .tup [.int (g k), .int k]
abbrev ordI (g : Int → Int) (n : Nat) : List Int := ordE (key2 g) (rangeI 0 n)
section
variable {P : Pr} {ρ : Env} {st : Sto} {X : Nat → D → Sto → Prop} {Q : KD → Sto → Prop} {kd : Kd}
end
end PV

/-! part PV64 -/
/-! PV64: t.index(y), t a tuple made by tuple(a list) and kept. -/
noncomputable section
namespace RT
open PySem PySem.W PySem.Spec PyProof.Rows L2
variable {X : Cx} {a : Expr} {ta to : TE}
def kTupX (K : PySem.W.Frag) (x : V) (H : Hp) (Q : VK) : Prop := ∃ p xs, x = .ref p ∧ SqL K H p xs ∧ ∀ q (o : Obj), H q = none → o.dict = none → Q (.ref q) (upd H q (.frz o (.tup xs)))
/-- its object is known -/
def tyX (x : V) (H : Hp) : Prop := ∃ (p : Addr) (o : Obj) (us : List V), x = .ref p ∧ o.dict = none ∧ H p = some (.frz o (.tup us))
def tBMX (r : V → List V → Hp → VK → Prop) (to : TE) (ta : TA) : TE := fun σ H Q => to σ H fun x H1 => tyX x H1 ∧ ta σ H1 fun ys H2 => r x ys H2 Q
end RT
namespace PV
open PySem PySem.W PySem.Spec PyProof.Rows L2 LamX NdefX
section
variable {X : Cx} {G : Gx} {P : Pr} {pos : Pos}
theorem FR.unx {w : Wd} {H : Hp} {ds : List D} {v : V} (hkt : G.kt = true) (h : FR G w H (.tx ds) v) : FR G w H (.tup ds) v := by
  cases h with
  | tx hf hd h hs => exact .tup (.inl ⟨hf, .inr ⟨hkt, _, h⟩⟩) hs
theorem KR.tx {Os : List (List Addr)} {w : Wd} {H H0 : Hp} {k : Kd} {ds : List D} {v : V} (h : KR G Os w H H0 (k, .tx ds) v) : FR G w H (.tx ds) v := h.nc rfl
end
end PV

/-! part PV65 -/
/-! PV65: running those. -/
noncomputable section
namespace PV
open PySem L2
section
variable {P : Pr} {ρ : Env} {st : Sto} {X : Nat → D → Sto → Prop} {Q : KD → Sto → Prop} {k : Kd}
@[simp] theorem wp_tupxE {e : E} : Wp (evE P (.tupx e) ρ) st Q X ↔ Wp (evE P e ρ) st (fun x s => Wp (tupxD x) s Q X) X := by
  rw [evE, wp_bind]
@[simp] theorem wp_unxE {e : E} : Wp (evE P (.unx e) ρ) st Q X ↔ Wp (evE P e ρ) st (fun x s => Wp (unxD x) s Q X) X := by
  rw [evE, wp_bind]
@[simp] theorem wp_tupxD {ds : List D} : Wp (tupxD (k, .lst ds)) st Q X ↔ viewB k = true ∧ Q (.fz, .tx ds) st := wp_ifno
@[simp] theorem wp_unxD {ds : List D} : Wp (unxD (k, .tx ds)) st Q X ↔ Q (.fz, .tup ds) st := Iff.rfl
end
end PV

/-! part PV66 -/
/-! PV66: x += list, x's list one's own. -/
noncomputable section
namespace PV
open PySem PySem.W PySem.Spec PyProof.Rows L2 LamX NdefX
section
variable {X : Cx} {G : Gx} {P : Pr} {pos : Pos}
end
section
variable {P : Pr} {ρ : Env} {st : Sto} {X : Nat → D → Sto → Prop} {Q : Fl × Env → Sto → Prop}
@[simp] theorem wp_extS {i : Nat} {e : E} : Wp (evS P (.ext i e) ρ) st Q X ↔ Wp (slotD ρ i) st (fun x s => Wp (ofO (ownL1 x)) s (fun ds s => Wp (evE P e ρ) s (fun y s => Wp (ofO (lstV y)) s (fun es s => szOk (ds.length + es.length) = true ∧ Q (.nx, ρ.set i (some (1, .lst (ds ++ es)))) s) X) X) X) X := by
  rw [evS]
  simp only [wp_bind, wp_ifno, wp_pure]
@[simp] theorem lstV_fr {l : Nat} {ds : List D} : lstV (.fr l, .lst ds) = some ds := rfl
@[simp] theorem lstV_fz {ds : List D} : lstV (.fz, .lst ds) = some ds := rfl
@[simp] theorem lstV_an {ds : List D} : lstV (.an, .lst ds) = some ds := rfl
end
end PV

/-! part PV67 -/
/-! PV67: instances that change: made, and o.f += e. -/
noncomputable section
namespace PV
open PySem PySem.W PySem.Spec PyProof.Rows L2 LamX NdefX
section
variable {X : Cx} {G : Gx} {P : Pr} {pos : Pos}
end
end PV

/-! part PV68 -/
/-! PV68: the module's constants; dict(constant); x.count(e); list(d.values()), list(d.items()). -/
noncomputable section
namespace PV
open PySem PySem.W PySem.Spec PyProof.Rows L2 LamX NdefX
mutual
def conB (K : PySem.W.Frag) : D → Value → Bool
  | .int i, .int j _ => decide (i = j)
  | .str x, .str y _ => decide (x = y)
  | .tup ds, .ref a => (match K.lookup a with
    | some ⟨cls, dict, .seq its _, _⟩ => decide (cls = .type "tuple") && dict.isNone && decide (its.size ≤ sizeLine) && conBs K ds its.toList
    | _ => false)
  | _, _ => false
def conBs (K : PySem.W.Frag) : List D → List Value → Bool
  | [], [] => true
  | d :: ds, u :: us => conB K d u && conBs K ds us
  | _, _ => false
end
section
variable {G : Gx} {w : Wd} {H : Hp}
mutual
theorem conB_fr (hkt : G.kt = true) : ∀ {d : D} {u : Value}, conB G.K d u = true → isR d = false ∧ ∃ v, RelV v u ∧ FR G w H d v
  | .int i, u, h => by
    cases u with
    | int j t =>
      rw [conB] at h
      exact ⟨rfl, .int i, ⟨t, by rw [of_decide_eq_true h]⟩, FR.int i⟩
    | _ => simp [conB] at h
  | .str x, u, h => by
    cases u with
    | str y t =>
      rw [conB] at h
      exact ⟨rfl, .str x, ⟨t, by rw [of_decide_eq_true h]⟩, FR.str x⟩
    | _ => simp [conB] at h
  | .tup ds, u, h => by
    cases u with
    | ref a =>
      rw [conB] at h
      cases e : G.K.lookup a with
      | none => rw [e] at h; cases h
      | some o =>
        obtain ⟨cls, dict, data, sl⟩ := o
        rw [e] at h
        cases data with
        | seq its n =>
          simp only [Bool.and_eq_true] at h
          obtain ⟨⟨⟨h1, h2⟩, h3⟩, h4⟩ := h
          obtain ⟨vs, hv, hf⟩ := conBs_fr hkt h4
          have hd : dict = none := by cases dict <;> simp_all
          exact ⟨rfl, .ref a, rfl, .tup (.inr ⟨hkt, _, its, n, e, of_decide_eq_true h1, hd, rfl, of_decide_eq_true h3, hv⟩) hf⟩
        | _ => cases h
    | _ => simp [conB] at h
  | .non, u, h => by cases u <;> simp [conB] at h
  | .bl _, u, h => by cases u <;> simp [conB] at h
  | .lst _, u, h => by cases u <;> simp [conB] at h
  | .dic _, u, h => by cases u <;> simp [conB] at h
  | .dit _, u, h => by cases u <;> simp [conB] at h
  | .ins _ _, u, h => by cases u <;> simp [conB] at h
  | .ref _, u, h => by cases u <;> simp [conB] at h
  | .tx _, u, h => by cases u <;> simp [conB] at h
theorem conBs_fr (hkt : G.kt = true) : ∀ {ds : List D} {us : List Value}, conBs G.K ds us = true → ∃ vs, Vals vs us ∧ FRs G w H ds vs
  | [], [], _ => ⟨[], .nil, .nil⟩
  | d :: ds, u :: us, h => by
    rw [conBs, Bool.and_eq_true] at h
    obtain ⟨n, v, r, f⟩ := conB_fr hkt h.1
    obtain ⟨vs, rs, fs⟩ := conBs_fr hkt h.2
    exact ⟨v :: vs, .cons r rs, .cons n f fs⟩
  | [], _ :: _, h => by simp [conBs] at h
  | _ :: _, [], h => by simp [conBs] at h
end
end
section
variable {X : Cx} {G : Gx} {P : Pr} {pos : Pos}
/-- a constant of the module's -/
theorem de_gcon {x : Str} {k : Nat} {d : D} {a : Addr} (hkt : G.kt = true) (hK : X.K = G.K) (hg : Gl X x) (hm : X.mg x = some (.ref a)) (hc : conB X.K d (.ref a) = true) (hP : P.con k = some d) (hd : (x == ("__debug__" : Str)) = false := by decide) : DE X G P (.Name x pos) (.gcon k) := fun W tk => by
  refine imE (pe_glob (v := .ref a) hg hm rfl hd) fun σ H Q ⟨w, ρ, Os, st, g, ot⟩ => ?_
  rw [evE, hP] at ot
  obtain ⟨_, v, r, f⟩ := conB_fr hkt (w := w) (H := H) (hK ▸ hc)
  have ev : v = V.ref a := r.inj (show RelV (V.ref a) (Value.ref a) from rfl)
  subst ev
  exact ot _ _ _ (Po.refl _ _) g.s f
section
variable {e : Expr} {te : TE} {p apos cpos : Pos}
end
/-- x.count(e) -/
def rCountD (K : PySem.W.Frag) : V → List V → Hp → VK → Prop := fun x xs H Q => ∃ (a : Addr) (y : V) (d : PyData) (ds : List PyData), x = V.ref a ∧ xs = [y] ∧ Dp K H (V.ref a) (.list ds) ∧ Dp K H y d ∧
  SeqAt.shaped (.list ds) = true ∧ SeqAt.shaped d = true ∧ Q (.int (ds.countP fun z => PyData.eqv z d : Nat)) H
end
end PV

/-! part PV69 -/
/-! PV69: dict(x), x a constant tuple of pairs. -/
noncomputable section
namespace PV
open PySem PySem.W PySem.Spec PyProof.Rows L2 LamX NdefX
section
variable {X : Cx} {G : Gx} {P : Pr} {pos : Pos}
end
end PV

/-! part PV70 -/
/-! PV70: the new things run in plain terms: instances that change, constants, counts; draws with more in the store. -/
noncomputable section
namespace PV
open PySem L2
section
variable {P : Pr} {ρ : Env} {st : Sto} {X : Nat → D → Sto → Prop}
@[simp] theorem wp_augf {Q : Fl × Env → Sto → Prop} {c k : Nat} {op : Operator} {o e : E} : Wp (evS P (.augf c o k op e) ρ) st Q X ↔ Wp (evE P o ρ) st (fun x s => keepB x.1 = true ∧ Wp (refO x.2) s (fun n s => Wp (fldR c n k) s (fun v s => Wp (evE P e ρ) s (fun y s => Wp (augM op v.2 y.2) s (fun z s => Wp (setfM c (.ref n) k z) s (fun _ s => Q (.nx, ρ) s) X) X) X) X) X) X := by
  rw [evS]
  simp only [wp_bind, keep, wp_ifno, wp_pure]
@[simp] theorem wp_refO {Q : Nat → Sto → Prop} {n : Nat} : Wp (refO (.ref n)) st Q X ↔ Q n st := Iff.rfl
@[simp] theorem wp_fldV {Q : KD → Sto → Prop} {l : Nat} {d : D} : Wp (fldV (l, d)) st Q X ↔ (l = 0 ∨ isC d = false) ∧ Q (.fz, d) st := wp_ifno
@[simp] theorem wp_gcon {Q : KD → Sto → Prop} {k : Nat} : Wp (evE P (.gcon k) ρ) st Q X ↔ Wp (ofO (P.con k)) st (fun d s => Q (.fz, d) s) X := by
  rw [evE]
  simp only [wp_bind, wp_pure]
@[simp] theorem wp_dictC {Q : KD → Sto → Prop} {k : Nat} : Wp (evE P (.dictC k) ρ) st Q X ↔ Wp (ofO (P.con k)) st (fun d s => Wp (dictCD d) s Q X) X := by
  rw [evE]
  simp only [wp_bind]
@[simp] theorem wp_dictCD {Q : KD → Sto → Prop} {ds : List D} : Wp (dictCD (.tup ds)) st Q X ↔ Wp (ofO (pairsK ds)) st (fun ps s => Q (.fr 1, .dic (mergeD [] ps)) s) X := by
  show Wp (ofO (pairsK ds) >>= fun ps => pure (Kd.fr 1, D.dic (mergeD [] ps))) st Q X ↔ _
  simp only [wp_bind, wp_pure]
@[simp] theorem wp_lstVals {Q : KD → Sto → Prop} {k : Kd} {kvs : List (Ky × D)} : Wp (biD .lstVals [(k, .dic kvs)]) st Q X ↔ walkB k = true ∧ Q (.fr 1, .lst (kvs.map (·.2))) st := wp_ifno
@[simp] theorem wp_lstItems {Q : KD → Sto → Prop} {k : Kd} {kvs : List (Ky × D)} : Wp (biD .lstItems [(k, .dic kvs)]) st Q X ↔ walkB k = true ∧ Q (.fr 1, .lst (kvs.map fun p => .tup [keyD p.1, p.2])) st := wp_ifno
@[simp] theorem okM_count (ds : List D) : okM .count (.lst ds) = true := rfl
/-- the second of the store's -/
@[simp] theorem wp_cls1 {Q : Nat → Sto → Prop} {c : Nat} {x : Nd} {fs : List (Nat × D)} {r : Sto} : Wp (clsD (.ref 1)) (x :: .ni c fs :: r) Q X ↔ Q c (x :: .ni c fs :: r) := Iff.rfl
@[simp] theorem wp_fld1 {Q : KD → Sto → Prop} {c c' f : Nat} {x : Nd} {fs : List (Nat × D)} {r : Sto} : Wp (fldD c (.ref 1) f) (x :: .ni c' fs :: r) Q X ↔ c' = c ∧ Wp (ofO fs[f]?) (x :: .ni c' fs :: r) (fun v s => Wp (fldV v) s Q X) X := by
  show Wp (if c' = c then ofO fs[f]? >>= fldV else no) (x :: .ni c' fs :: r) Q X ↔ _
  by_cases e : c' = c
  · rw [if_pos e, wp_bind]
    exact ⟨fun h => ⟨e, h⟩, fun h => h.2⟩
  · rw [if_neg e]
    exact ⟨fun h => h.elim, fun h => absurd h.1 e⟩
@[simp] theorem wp_fldR1 {Q : KD → Sto → Prop} {c c' f : Nat} {x : Nd} {fs : List (Nat × D)} {r : Sto} : Wp (fldR c 1 f) (x :: .ni c' fs :: r) Q X ↔ c' = c ∧ Wp (ofO fs[f]?) (x :: .ni c' fs :: r) (fun v s => Wp (fldV v) s Q X) X := wp_fld1
@[simp] theorem wp_setf1 {Q : Unit → Sto → Prop} {c k : Nat} {d : D} {x : Nd} {fs : List (Nat × D)} {r : Sto} : Wp (setfM c (.ref 1) k d) (x :: .ni c fs :: r) Q X ↔ ∃ fs', putFd k d fs = some fs' ∧ Q () (x :: .ni c fs' :: r) := by
  unfold setfM Wp
  simp
  cases e : putFd k d fs with
  | none => simp
  | some fs' => simp
end
abbrev dstr (a b c : Int) (r : Sto) : Sto := .nl [.int a, .int b, .int c] :: r
end PV

/-! part PV71 -/
/-! PV71: x[k] = e, x[k] += e on an own list; try: e [; return r] except C: continue. -/
noncomputable section
namespace PV
open PySem PySem.W PySem.Spec PyProof.Rows L2 LamX NdefX
section
variable {X : Cx} {G : Gx} {P : Pr} {pos : Pos}
theorem FRs.setN {w : Wd} {H : Hp} : ∀ {ds : List D} {vs : List V} (m : Nat) {d : D} {v : V}, FRs G w H ds vs → isR d = false → FR G w H d v → FRs G w H (ds.set m d) (vs.set m v)
  | _, _, _, _, _, .nil, _, _ => by simpa using FRs.nil
  | _, _, 0, _, _, .cons n a b, r, h => by simpa using FRs.cons r h b
  | _, _, m + 1, _, _, .cons n a b, r, h => by
    simp only [List.set_cons_succ]
    exact .cons n a (FRs.setN m b r h)
/-- a list's item -/
def rGetL : V → V → Hp → VK → Prop := fun o i H Q => ∃ p xs k j v, o = .ref p ∧ i = .int k ∧ H p = some (.lst xs) ∧ ixN xs.length k = some j ∧ xs[j]? = some v ∧ Q v H
end
/-! ### try: e; except C: continue -/
section
variable {X : Cx} {G : Gx} {P : Pr} {pos : Pos}
end
section
variable {P : Pr} {ρ : Env} {st : Sto} {X : Nat → D → Sto → Prop} {Q : Fl × Env → Sto → Prop}
@[simp] theorem wp_lput {i : Nat} {k e : E} : Wp (evS P (.lput i k e) ρ) st Q X ↔ Wp (evE P e ρ) st (fun y s => Wp (slotD ρ i) s (fun x s => Wp (ofO (ownL1 x)) s (fun ds s => Wp (evE P k ρ) s (fun z s => Wp (ofO (intO z.2)) s (fun n s => Wp (ofO (L2.ixN ds.length n)) s (fun m s => Wp (PV.put y) s (fun d s => Q (.nx, ρ.set i (some (1, .lst (ds.set m d)))) s) X) X) X) X) X) X) X := by
  rw [evS]
  simp only [wp_bind, wp_pure]
@[simp] theorem wp_laug {i : Nat} {k e : E} {o : Operator} : Wp (evS P (.laug i k o e) ρ) st Q X ↔ Wp (slotD ρ i) st (fun x s => Wp (ofO (ownL1 x)) s (fun ds s => Wp (evE P k ρ) s (fun z s => Wp (ofO (intO z.2)) s (fun n s => Wp (ofO (L2.ixN ds.length n)) s (fun m s => Wp (ofO ds[m]?) s (fun d0 s => Wp (evE P e ρ) s (fun y s => Wp (augM o d0 y.2) s (fun r s => Q (.nx, ρ.set i (some (1, .lst (ds.set m r)))) s) X) X) X) X) X) X) X) X := by
  rw [evS]
  simp only [wp_bind, wp_pure]
theorem wp_tryM {cc : Nat} {m : M (Fl × Env)} : Wp (tryM cc m ρ) st Q X ↔ Wp m st Q (fun c _ s => c = cc ∧ Q (.ct, ρ) s) := by
  unfold Wp tryM
  cases m st with
  | ok a s => rfl
  | ex c p s => 
    dsimp only
    by_cases h : c = cc <;> simp [h]
  | no => rfl
@[simp] theorem wp_try {cc : Nat} {e : E} : Wp (evS P (.tryC cc e none) ρ) st Q X ↔ Wp (evE P e ρ) st (fun _ s => Q (.nx, ρ) s) (fun c _ s => c = cc ∧ Q (.ct, ρ) s) := by
  rw [evS, wp_tryM]
  simp only [wp_bind, wp_pure, tryEnd]
@[simp] theorem wp_tryR {cc : Nat} {e r : E} : Wp (evS P (.tryC cc e (some r)) ρ) st Q X ↔ Wp (evE P e ρ) st (fun _ s => Wp (evE P r ρ) s (fun x s => Wp (keep x) s (fun d s => Q (.rt d, ρ) s) (fun c _ s => c = cc ∧ Q (.ct, ρ) s)) (fun c _ s => c = cc ∧ Q (.ct, ρ) s)) (fun c _ s => c = cc ∧ Q (.ct, ρ) s) := by
  rw [evS, wp_tryM]
  simp only [wp_bind, wp_pure, tryEnd]
end
end PV

/-! part PV72 -/
/-! PV72: dicts as keys in order and a function of the key; get; places in lists; rounding up. -/
namespace PV
open PySem L2
section
variable {κ κ' β : Type} [DecidableEq κ] [DecidableEq κ']
/-- the dict whose keys are ks, in this order, the value at k is F k -/
abbrev kvs (e : κ → κ') (v : β → D) (ks : List κ) (F : κ → β) : List (κ' × D) := ks.map fun k => (e k, v (F k))
def addk (ks : List κ) (k : κ) : List κ := if k ∈ ks then ks else ks ++ [k]
def upf (F : κ → β) (k : κ) (b : β) : κ → β := fun x => if x = k then b else F x
@[simp] theorem upf_same (F : κ → β) (k : κ) (b : β) : upf F k b k = b := by simp [upf]
@[simp] theorem mem_addk {ks : List κ} {k x : κ} : x ∈ addk ks k ↔ x ∈ ks ∨ x = k := by
  unfold addk
  split
  · rename_i h
    constructor
    · exact .inl
    · rintro (z | rfl)
      · exact z
      · exact h
  · simp
end
section
variable {P : Pr} {ρ : Env} {st : Sto} {X : Nat → D → Sto → Prop} {Q : KD → Sto → Prop}
@[simp] theorem readK1_dic (kvs : List (Ky × D)) : readK 1 (.dic kvs) = (.bo 1, .dic kvs) := by simp [readK, isC]
@[simp] theorem okM_get (kvs : List (Ky × D)) : okM .get (.dic kvs) = true := rfl
@[simp] theorem wp_get {o a z : E} : Wp (evE P (.mc .get o [a, z]) ρ) st Q X ↔ Wp (evE P o ρ) st (fun x s => okM .get x.2 = true ∧ Wp (evE P a ρ) s (fun y s => Wp (evE P z ρ) s (fun z s => Wp (PV.getD x y z) s Q X) X) X) X := by
  rw [evE_mc]
  simp only [wp_bind, wp_ifno, evEs, wp_pure, mcD, b2]
@[simp] theorem wp_getDs {k k' : Kd} {kvs : List (Ky × D)} {x : Str} {z : KD} : Wp (PV.getD (k, .dic kvs) (k', .str x) z) st Q X ↔ (∀ d, getK (.inr x) kvs = some d → Q (itemK k d) st) ∧ (getK (.inr x) kvs = none → Q z st) := by
  show Wp (ofO (some (getK (.inr x : Ky) kvs)) >>= _) st Q X ↔ _
  simp only [wp_bind, wp_ofO_some]
  cases getK (.inr x : Ky) kvs <;> simp
@[simp] theorem wp_getDi {k k' : Kd} {kvs : List (Ky × D)} {x : Int} {z : KD} : Wp (PV.getD (k, .dic kvs) (k', .int x) z) st Q X ↔ (∀ d, getK (.inl x) kvs = some d → Q (itemK k d) st) ∧ (getK (.inl x) kvs = none → Q z st) := by
  show Wp (ofO (some (getK (.inl x : Ky) kvs)) >>= _) st Q X ↔ _
  simp only [wp_bind, wp_ofO_some]
  cases getK (.inl x : Ky) kvs <;> simp
@[simp] theorem itemK_b1 (d : D) : itemK (.bo 1) d = (.fz, d) := by simp [itemK]
end
@[simp] theorem wp_put {st : Sto} {X : Nat → D → Sto → Prop} {x : KD} {Q : D → Sto → Prop} : Wp (PV.put x) st Q X ↔ putB x = true ∧ Q x.2 st := wp_ifno
@[simp] theorem wp_keep {st : Sto} {X : Nat → D → Sto → Prop} {x : KD} {Q : D → Sto → Prop} : Wp (keep x) st Q X ↔ keepB x.1 = true ∧ Q x.2 st := wp_ifno
@[simp] theorem keyO_str (x : Str) : keyO (.str x) = some (.inr x) := rfl
@[simp] theorem keyO_int (x : Int) : keyO (.int x) = some (.inl x) := rfl
@[simp] theorem putB_fz (d : D) : putB (.fz, d) = !isR d := by cases d <;> rfl
def isBl : D → Bool
  | .bl _ => true
  | _ => false
@[simp] theorem isBl_bl (b : Bool) : isBl (.bl b) = true := rfl
/-- a block, closed to simp -/
def blk (P : Pr) (a : List S) (ρ : Env) (Q : Fl × Env → Sto → Prop) (X : Nat → D → Sto → Prop) (s : Sto) : Prop := Wp (evSs P a ρ) s Q X
section
variable {P : Pr} {ss a b : List S} {c : E} {ρ : Env} {st : Sto} {Q : Fl × Env → Sto → Prop} {X : Nat → D → Sto → Prop}
theorem step_if (h : Wp (evE P c ρ) st (fun x s => isBl x.2 = true ∧ (x.2 = .bl true → blk P a ρ (nxtL P ss Q X) X s) ∧ (x.2 = .bl false → blk P b ρ (nxtL P ss Q X) X s)) X) : nxtL P (.ite c a b :: ss) Q X (.nx, ρ) st := by
  refine step ?_
  rw [wp_iteS]
  refine h.mono1 fun x s ⟨e, h1, h2⟩ => ?_
  obtain ⟨k, d⟩ := x
  cases d <;> simp [isBl] at e
  rename_i t
  exact ⟨fun z => h1 (by rw [z]), fun z => h2 (by rw [z])⟩
theorem step_ifT (h : Wp (evE P c ρ) st (fun x s => x.2 = .bl true ∧ s = st) fun _ _ _ => False) (q : nxtL P a (nxtL P ss Q X) X (.nx, ρ) st) : nxtL P (.ite c a b :: ss) Q X (.nx, ρ) st :=
  step_if (h.mono (fun x s ⟨e1, e2⟩ => ⟨by rw [e1]; rfl, fun _ => by subst e2; exact q, fun z => by rw [e1] at z; cases z⟩) fun _ _ _ z => z.elim)
theorem step_ifF (h : Wp (evE P c ρ) st (fun x s => x.2 = .bl false ∧ s = st) fun _ _ _ => False) (q : nxtL P b (nxtL P ss Q X) X (.nx, ρ) st) : nxtL P (.ite c a b :: ss) Q X (.nx, ρ) st :=
  step_if (h.mono (fun x s ⟨e1, e2⟩ => ⟨by rw [e1]; rfl, (fun z => by rw [e1] at z; cases z), fun _ => by subst e2; exact q⟩) fun _ _ _ z => z.elim)
end
theorem ixN_of {n : Nat} {i : Int} (h0 : 0 ≤ i) (h1 : i < n) : L2.ixN n i = some i.toNat := by unfold L2.ixN; rw [if_pos h0, if_pos h1]
theorem eqD_lnil {α : Type} {n : Nat} {e : α → D} {l : List α} (h : ∀ x ∈ l, gn n (e x) = true) (hn : n ≤ 60) : eqD (.lst (l.map e)) (.lst []) = some (decide (l = [])) := by
  have g0 : gn (n + 1) (.lst []) = true := by simp [gn]
  by_cases c : l = []
  · subst c
    simpa using eqD_self (gn_gd _ g0) (by omega)
  · have g1 : gn (n + 1) (.lst (l.map e)) = true := by
      rw [gn, List.all_eq_true]
      intro x hx
      obtain ⟨y, hy, rfl⟩ := List.mem_map.mp hx
      exact h y hy
    rw [eqD_ne g1 g0 (by omega) (by omega) (by simpa using c)]
    simp [c]
theorem eqD_tnil {α : Type} {n : Nat} {e : α → D} {l : List α} (h : ∀ x ∈ l, gn n (e x) = true) (hn : n ≤ 60) : eqD (.tup (l.map e)) (.tup []) = some (decide (l = [])) := by
  have g0 : gn (n + 1) (.tup []) = true := by simp [gn]
  by_cases c : l = []
  · subst c
    simpa using eqD_self (gn_gd _ g0) (by omega)
  · have g1 : gn (n + 1) (.tup (l.map e)) = true := by
      rw [gn, List.all_eq_true]
      intro x hx
      obtain ⟨y, hy, rfl⟩ := List.mem_map.mp hx
      exact h y hy
    rw [eqD_ne g1 g0 (by omega) (by omega) (by simpa using c)]
    simp [c]
@[simp] theorem eqD_l00 : eqD (.lst []) (.lst []) = some true := by simpa using eqD_lnil (α := Int) (n := 0) (e := D.int) (l := []) (fun _ _ => rfl) (by omega)
@[simp] theorem eqD_t00 : eqD (.tup []) (.tup []) = some true := by simpa using eqD_tnil (α := Int) (n := 0) (e := D.int) (l := []) (fun _ _ => rfl) (by omega)
@[simp] theorem eqC_dic (kvs : List (Ky × D)) (b : D) : eqC (.dic kvs) b = eqDic (.dic kvs) b := rfl
end PV

/-! part PV73 -/
/-! PV73: an instance of the store's is locked while an expression, a statement runs. -/
noncomputable section
namespace PV
open PySem PySem.W PySem.Spec PyProof.Rows L2 LamX NdefX
/-- a dict -/
def isDk (u : HO) : Prop := (∃ k, u = .dK k) ∨ ∃ k, u = .dT k
theorem isDk.un {u : HO} {o : Obj} (h : isDk u) : unfO (.frz o u) = u := by
  rcases h with ⟨k, rfl⟩ | ⟨k, rfl⟩ <;> rfl
theorem isDk.ntbl {u : HO} (h : isDk u) : ∀ ps, u ≠ .tbl ps := by
  rcases h with ⟨k, rfl⟩ | ⟨k, rfl⟩ <;> exact fun _ e => by cases e
def lkd (od : Addr → Obj) (ds : List Addr) (H : Hp) : Hp := fun a => if a ∈ ds then (H a).map (.frz (od a)) else H a
def thw (ds : List Addr) (H : Hp) : Hp := fun a => if a ∈ ds then (H a).map unfO else H a
theorem lkd_out {od : Addr → Obj} {ds : List Addr} {H : Hp} {a : Addr} (h : a ∉ ds) : lkd od ds H a = H a := by unfold lkd; rw [if_neg h]
theorem thw_out {ds : List Addr} {H : Hp} {a : Addr} (h : a ∉ ds) : thw ds H a = H a := by unfold thw; rw [if_neg h]
theorem thw_none {ds : List Addr} {H : Hp} {a : Addr} : thw ds H a = none ↔ H a = none := by
  unfold thw
  split
  · cases H a <;> simp
  · exact Iff.rfl
/-- it is frozen by this frame alone -/
def NFd (X : Cx) (b : Addr) : Prop := ∀ o u, X.H_0 b ≠ some (.frz o u)
section
variable {X : Cx} {pins : List (Addr × Obj)} {σ : L2.St} {H : Hp} {s : Shared}
end
/-- behind it: the dicts are still locked; they are as they are unlocked -/
def Bk (ds : List Addr) (H1 : Hp) (Q : Hp → Prop) : Prop := (∀ d ∈ ds, ∃ o u, H1 d = some (.frz o u) ∧ isDk u) ∧ Q (thw ds H1)
def wW (X : Cx) (ds : List Addr) (W : WX) : WX := fun c d σ H1 => ds.Nodup ∧ (∀ d ∈ ds, NFd X d) ∧ Bk ds H1 fun H2 => W c d σ H2
/-! ### the world with other locks -/
section
variable {G : Gx} {w : Wd} {H H' : Hp} {T' : Addr → Option (List Addr)}
def Wd.lk (w : Wd) (T' : Addr → Option (List Addr)) : Wd := { w with T := T' }
mutual
theorem FR.tw (e : ∀ a, w.F a → H' a = H a) : ∀ {d : D} {v : V}, FR G w H d v → FR G (w.lk T') H' d v
  | _, _, .non => .non
  | _, _, .bl b => .bl b
  | _, _, .int i => .int i
  | _, _, .str x => .str x
  | _, _, .tup h hs => .tup (h.elim (fun h => .inl ⟨h.1, by have q := h.2; unfold Rt at q ⊢; rw [e _ h.1]; exact q⟩) .inr) (FRs.tw e hs)
  | _, _, .lst h hs => .lst ⟨h.1, by rw [e _ h.1]; exact h.2⟩ (FRs.tw e hs)
  | _, _, .ins hf h hc hl hs => .ins hf (by rw [e _ hf]; exact h) hc hl (FRs.tw e hs)
  | _, _, .ref h => .ref h
  | _, _, .tx hf hd h hs => .tx hf hd (by rw [e _ hf]; exact h) (FRs.tw e hs)
  | _, _, .dic hf h hs => .dic hf (by unfold Rd at h ⊢; rw [e _ hf]; exact h) (FRs.tw e hs)
  | _, _, .dit hf h hs => .dit hf (by unfold Rd at h ⊢; rw [e _ hf]; exact h) (FRs.tw e hs)
theorem FRs.tw (e : ∀ a, w.F a → H' a = H a) : ∀ {ds : List D} {vs : List V}, FRs G w H ds vs → FRs G (w.lk T') H' ds vs
  | _, _, .nil => .nil
  | _, _, .cons n h hs => .cons n (FR.tw e h) (FRs.tw e hs)
end
mutual
theorem VR.tw (e : ∀ a, w.F a → H' a = H a) : ∀ {l : Nat} {O : List Addr} {d : D} {v : V}, VR G w H l O d v → (∀ a ∈ O, H' a = H a) → VR G (w.lk T') H' l O d v
  | _, _, _, _, .zero h, _ => .zero (h.tw e)
  | _, _, _, _, .nc hc h, _ => .nc hc (h.tw e)
  | _, _, _, _, .lst h hf hn hs, hO => .lst (by rw [hO _ (by simp)]; exact h) hf hn (VRs.tw e hs fun a ha => hO a (by simp [ha]))
  | _, _, _, _, .dic h hf hn hs, hO => .dic (by rw [hO _ (by simp)]; exact h) hf hn (VRs.tw e hs fun a ha => hO a (by simp [ha]))
  | _, _, _, _, .dit h hf hn hs, hO => .dit (by rw [hO _ (by simp)]; exact h) hf hn (VRs.tw e hs fun a ha => hO a (by simp [ha]))
theorem VRs.tw (e : ∀ a, w.F a → H' a = H a) : ∀ {l : Nat} {O : List Addr} {ds : List D} {vs : List V}, VRs G w H l O ds vs → (∀ a ∈ O, H' a = H a) → VRs G (w.lk T') H' l O ds vs
  | _, _, _, _, .nil, _ => .nil
  | _, _, _, _, .cons n h hs, hO => .cons n (VR.tw e h fun a ha => hO a (by simp [ha])) (VRs.tw e hs fun a ha => hO a (by simp [ha]))
end
theorem FDs.tw (e : ∀ a, w.F a → H' a = H a) : ∀ {xs : List (Nat × D)} {vs : List V} {O : List Addr}, FDs G w H xs vs O → (∀ a ∈ O, H' a = H a) → FDs G (w.lk T') H' xs vs O
  | _, _, _, .nil, _ => .nil
  | _, _, _, .cons n h hs, hO => .cons n (h.tw e fun a ha => hO a (by simp [ha])) (FDs.tw e hs fun a ha => hO a (by simp [ha]))
theorem unf_eq {a : Addr} (h : H' a = H a) : unf H' a = unf H a := by unfold unf; rw [h]
theorem NRs.tw (e : ∀ a, w.F a → H' a = H a) : ∀ {st : Sto} {as O : List Addr}, NRs G w H st as O → (∀ a ∈ as, H' a = H a ∧ T' a = w.T a) → (∀ a ∈ O, H' a = H a) → NRs G (w.lk T') H' st as O
  | _, _, _, .nil, _, _ => .nil
  | _, _, _, .cons (.nl h hs) r, ha, hO => .cons (.nl (by rw [(ha _ (by simp)).1]; exact h) (hs.tw e)) (NRs.tw e r (fun a z => ha a (by simp [z])) fun a z => hO a (by simp [z]))
  | _, _, _, .cons (.ni h hc hl hs) r, ha, hO => .cons (.ni (by rw [(ha _ (by simp)).1]; exact h) hc hl (hs.tw e fun a z => hO a (by simp [z]))) (NRs.tw e r (fun a z => ha a (by simp [z])) fun a z => hO a (by simp [z]))
  | _, _, _, .cons (.nk t h hc hl hs hz) r, ha, hO => .cons (.nk (by show T' _ = _; rw [(ha _ (by simp)).2]; exact t) (by rw [(ha _ (by simp)).1]; exact h) hc hl (hs.tw (fun a z => unf_eq (e a z)) fun a z => unf_eq (hO a (by simp [z]))) fun b hb => let ⟨o, e1, n⟩ := hz b hb; ⟨o, by rw [hO b (by simp [hb])]; exact e1, n⟩) (NRs.tw e r (fun a z => ha a (by simp [z])) fun a z => hO a (by simp [z]))
  | _, _, _, .cons (.nd t h hs) r, ha, hO => .cons (.nd (by show T' _ = _; rw [(ha _ (by simp)).2]; exact t) (by rw [(ha _ (by simp)).1]; exact h) (hs.tw e)) (NRs.tw e r (fun a z => ha a (by simp [z])) fun a z => hO a (by simp [z]))
theorem NRs.at : ∀ {st : Sto} {as O : List Addr} {n : Nat} {nd : Nd} {a : Addr}, NRs G w H st as O → st[n]? = some nd → as[n]? = some a → ∃ st1 st2 as1 as2 O1 On O2, st = st1 ++ nd :: st2 ∧ as = as1 ++ a :: as2 ∧ st1.length = n ∧ O = O1 ++ (On ++ O2) ∧ NRs G w H st1 as1 O1 ∧ NR G w H nd a On ∧ NRs G w H st2 as2 O2
  | _, _, _, _, _, _, .nil, h, _ => by simp at h
  | _, _, _, 0, _, _, .cons h r, e1, e2 => by
    simp at e1 e2
    subst e1; subst e2
    exact ⟨[], _, [], _, [], _, _, rfl, rfl, rfl, rfl, .nil, h, r⟩
  | _, _, _, n + 1, _, _, .cons h r, e1, e2 => by
    obtain ⟨st1, st2, as1, as2, O1, On, O2, q1, q2, q3, q4, h1, h2, h3⟩ := NRs.at (n := n) r (by simpa using e1) (by simpa using e2)
    exact ⟨_ :: st1, st2, _ :: as1, as2, _, On, O2, by rw [q1]; rfl, by rw [q2]; rfl, by simp [q3], by rw [q4, List.append_assoc], .cons h h1, h2, h3⟩
theorem NRs.join : ∀ {st1 st2 : Sto} {as1 as2 O1 O2 : List Addr}, NRs G w H st1 as1 O1 → NRs G w H st2 as2 O2 → NRs G w H (st1 ++ st2) (as1 ++ as2) (O1 ++ O2)
  | _, _, _, _, _, _, .nil, h => h
  | _, _, _, _, _, _, .cons h r, h2 => by
    rw [List.append_assoc]
    exact .cons h (NRs.join r h2)
theorem FDs.unf : ∀ {xs : List (Nat × D)} {vs : List V} {O : List Addr}, FDs G w H xs vs O → FDs G w (PV.unf H) xs vs O
  | _, _, _, .nil => .nil
  | _, _, _, .cons n h hs => .cons n h.unf (FDs.unf hs)
theorem FDs.lists : ∀ {xs : List (Nat × D)} {vs : List V} {O : List Addr}, FDs G w H xs vs O → ∀ a ∈ O, ∃ o, H a = some o ∧ ∀ ps, o ≠ .tbl ps
  | _, _, _, .nil => by simp
  | _, _, _, .cons _ h hs => fun b hb => (List.mem_append.mp hb).elim (h.lists b) (FDs.lists hs b)
end
end PV

/-! part PV74 -/
/-! PV74: locking and unlocking; the rules. -/
noncomputable section
namespace PV
open PySem PySem.W PySem.Spec PyProof.Rows L2 LamX NdefX
section
variable {G : Gx} {w w0 w2 wL : Wd} {H H' H0 H2 HL : Hp} {st st2 : Sto}
mutual
theorem VR.kinds : ∀ {l : Nat} {O : List Addr} {d : D} {v : V}, VR G w H l O d v → ∀ b ∈ O, ∃ u, H b = some u ∧ ((∃ xs, u = .lst xs) ∨ isDk u)
  | _, _, _, _, .zero _ => by simp
  | _, _, _, _, .nc _ _ => by simp
  | _, _, _, _, .lst h _ _ hs => fun b hb => by
    rcases List.mem_cons.mp hb with e | hb
    · rw [e]; exact ⟨_, h, .inl ⟨_, rfl⟩⟩
    · exact VRs.kinds hs b hb
  | _, _, _, _, .dic h _ _ hs => fun b hb => by
    rcases List.mem_cons.mp hb with e | hb
    · rw [e]; exact ⟨_, h, .inr (.inl ⟨_, rfl⟩)⟩
    · exact VRs.kinds hs b hb
  | _, _, _, _, .dit h _ _ hs => fun b hb => by
    rcases List.mem_cons.mp hb with e | hb
    · rw [e]; exact ⟨_, h, .inr (.inr ⟨_, rfl⟩)⟩
    · exact VRs.kinds hs b hb
theorem VRs.kinds : ∀ {l : Nat} {O : List Addr} {ds : List D} {vs : List V}, VRs G w H l O ds vs → ∀ b ∈ O, ∃ u, H b = some u ∧ ((∃ xs, u = .lst xs) ∨ isDk u)
  | _, _, _, _, .nil => by simp
  | _, _, _, _, .cons _ h hs => fun b hb => (List.mem_append.mp hb).elim (VR.kinds h b) (VRs.kinds hs b)
end
theorem FDs.kinds : ∀ {xs : List (Nat × D)} {vs : List V} {O : List Addr}, FDs G w H xs vs O → ∀ b ∈ O, ∃ u, H b = some u ∧ ((∃ xs, u = .lst xs) ∨ isDk u)
  | _, _, _, .nil => by simp
  | _, _, _, .cons _ h hs => fun b hb => (List.mem_append.mp hb).elim (h.kinds b) (FDs.kinds hs b)
mutual
theorem VR.unlk {T' : Addr → Option (List Addr)} (e : ∀ a, w.F a → H' a = H a) : ∀ {l : Nat} {O : List Addr} {d : D} {v : V}, VR G w (unf H) l O d v → (∀ a ∈ O, H' a = unf H a) → VR G (w.lk T') H' l O d v
  | _, _, _, _, .zero h, _ => .zero (h.unf'.tw e)
  | _, _, _, _, .nc hc h, _ => .nc hc (h.unf'.tw e)
  | _, _, _, _, .lst h hf hn hs, hO => .lst (by rw [hO _ (by simp)]; exact h) hf hn (VRs.unlk e hs fun a ha => hO a (by simp [ha]))
  | _, _, _, _, .dic h hf hn hs, hO => .dic (by rw [hO _ (by simp)]; exact h) hf hn (VRs.unlk e hs fun a ha => hO a (by simp [ha]))
  | _, _, _, _, .dit h hf hn hs, hO => .dit (by rw [hO _ (by simp)]; exact h) hf hn (VRs.unlk e hs fun a ha => hO a (by simp [ha]))
theorem VRs.unlk {T' : Addr → Option (List Addr)} (e : ∀ a, w.F a → H' a = H a) : ∀ {l : Nat} {O : List Addr} {ds : List D} {vs : List V}, VRs G w (unf H) l O ds vs → (∀ a ∈ O, H' a = unf H a) → VRs G (w.lk T') H' l O ds vs
  | _, _, _, _, .nil, _ => .nil
  | _, _, _, _, .cons n h hs, hO => .cons n (VR.unlk e h fun a ha => hO a (by simp [ha])) (VRs.unlk e hs fun a ha => hO a (by simp [ha]))
end
theorem FDs.unlk {T' : Addr → Option (List Addr)} (e : ∀ a, w.F a → H' a = H a) : ∀ {xs : List (Nat × D)} {vs : List V} {O : List Addr}, FDs G w (PV.unf H) xs vs O → (∀ a ∈ O, H' a = PV.unf H a) → FDs G (w.lk T') H' xs vs O
  | _, _, _, .nil, _ => .nil
  | _, _, _, .cons n h hs, hO => .cons n (h.unlk e fun a ha => hO a (by simp [ha])) (FDs.unlk e hs fun a ha => hO a (by simp [ha]))
theorem isDk.same {u : HO} (h : isDk u) : unfO u = u := by
  rcases h with ⟨k, rfl⟩ | ⟨k, rfl⟩ <;> rfl
theorem isDk.ncode {u : HO} {c : Addr} {q : Str} (h : isDk u) : u ≠ CodeO c q := by
  unfold CodeO
  rcases h with ⟨k, rfl⟩ | ⟨k, rfl⟩ <;> exact fun e => by cases e
theorem tabsN_out {T : List NTab} {ds : List Addr} (hd : ∀ d ∈ ds, ∃ u, H d = some u ∧ (isDk u ∨ ∃ o v, u = .frz o v)) (he : ∀ a, a ∉ ds → H' a = H a) (t : TabsN T H) : TabsN T H' := fun p hp => by
  obtain ⟨ps, h1, h2, h3⟩ := t p hp
  refine ⟨ps, ?_, h2, fun pos cv hc => ?_⟩
  · rw [he]
    · exact h1
    · intro z
      obtain ⟨u, e, hu⟩ := hd _ z
      rw [h1] at e
      cases e
      rcases hu with hu | ⟨o, v, hu⟩
      · exact hu.ntbl _ rfl
      · cases hu
  · obtain ⟨c, e1, e2⟩ := h3 pos cv hc
    refine ⟨c, e1, ?_⟩
    rw [he]
    · exact e2
    · intro z
      obtain ⟨u, e, hu⟩ := hd _ z
      rw [e2] at e
      have e := Option.some.inj e
      rcases hu with hu | ⟨o, v, hu⟩
      · exact hu.ncode e.symm
      · rw [hu] at e; unfold CodeO at e; cases e
/-- what is unlocked, seen from (w0, H0) -/
structure Ul (a : Addr) (ds : List Addr) (w0 : Wd) (H0 : Hp) : Prop where
  f : ∀ d ∈ ds, ¬ w0.F d
  o : ∀ d ∈ ds, d ∈ w0.O ∨ H0 d = none
  t : ∀ r L, w0.T r = some L → r ≠ a ∧ r ∉ ds ∧ ∀ c ∈ L, c ∉ ds
theorem Ul.po {a : Addr} {ds : List Addr} (u : Ul a ds w H) (p : Po w0 H0 w H) : Ul a ds w0 H0 :=
  ⟨fun d z q => u.f d z (p.fm d q), fun d z => (u.o d z).elim (p.on d) fun q => .inr (p.th d q), fun r L q => u.t r L (p.kt r L q).1⟩
theorem nt_thw {ds : List Addr} {H : Hp} {b : Addr} (n : NT (thw ds H) b) : NT H b := fun o e => by
  by_cases c : b ∈ ds
  · have q := n (unfO o) (by unfold thw; rw [if_pos c, e]; rfl)
    cases o with
    | frz ob u => cases u <;> (rcases q with ⟨vs, q⟩ | ⟨ps, q⟩ <;> cases q)
    | _ => exact q
  · exact n o (by rw [thw_out c]; exact e)
theorem Po.unl {a : Addr} {ds : List Addr} (u : Ul a ds w0 H0) (p : Po w0 H0 w2 H2) : Po w0 H0 (w2.lk fun r => if r = a then none else w2.T r) (thw ds H2) := by
  refine ⟨p.fm, p.fn, p.sp, p.on, fun b o h hf hn ho ht => ?_, fun b o h hf hn ho ht => ?_, fun b h => p.th b (thw_none.mp h), fun r L h => ?_, fun b h => p.nu b (nt_thw h)⟩
  · rw [thw_out]
    · exact p.kn b o h hf hn ho ht
    · intro z
      rcases u.o b z with q | q
      · exact ho q
      · rw [q] at h; cases h
  · rw [thw_out (fun z => u.f b z hf)]
    exact p.kf b o h hf hn ho ht
  · obtain ⟨t, k, l⟩ := p.kt r L h
    obtain ⟨n1, n2, n3⟩ := u.t r L h
    refine ⟨?_, fun o e n => ?_, fun c hc o e n => ?_⟩
    · show (if r = a then none else w2.T r) = _
      rw [if_neg n1]; exact t
    · rw [thw_out n2]; exact k o e n
    · rw [thw_out (n3 c hc)]; exact l c hc o e n
theorem Mo.unl {a : Addr} {ds : List Addr} (hf : ∀ d ∈ ds, ¬ wL.F d) (ht : ∀ r L, wL.T r = some L → r ≠ a ∧ r ∉ ds ∧ ∀ c ∈ L, c ∉ ds) (p : Mo wL HL w2 H2) : Mo wL HL (w2.lk fun r => if r = a then none else w2.T r) (thw ds H2) := by
  refine ⟨p.fm, fun b hb o h => ?_, p.sp, fun r L h => ?_⟩
  · rw [thw_out (fun z => hf b z hb)]
    exact p.kp b hb o h
  · obtain ⟨t, k, l⟩ := p.kt r L h
    obtain ⟨n1, n2, n3⟩ := ht r L h
    refine ⟨?_, fun o e n => ?_, fun c hc o e n => ?_⟩
    · show (if r = a then none else w2.T r) = _
      rw [if_neg n1]; exact t
    · rw [thw_out n2]; exact k o e n
    · rw [thw_out (n3 c hc)]; exact l c hc o e n
/-- locked, and what unlocking wants -/
structure Lkd (G : Gx) (w : Wd) (H : Hp) (st : Sto) (n c : Nat) (xs : List (Nat × D)) (a : Addr) (On ds : List Addr) : Prop where
  ea : w.ρ[n]? = some a
  nd : ds.Nodup
  dk : ∀ d ∈ ds, ∃ u, H d = some u ∧ isDk u
  sub : ∀ d ∈ ds, d ∈ On
  onO : ∀ d ∈ On, d ∈ w.O
  lst : ∀ b ∈ On, b ∉ ds → ∃ xs, H b = some (.lst xs)
  ul : Ul a ds w H
  po : ∀ od, Po w H (w.lk fun r => if r = a then some On else w.T r) (lkd od ds H)
  s : ∀ od, St G (w.lk fun r => if r = a then some On else w.T r) (lkd od ds H) (st.set n (.nk c xs))
/-- unlocked again -/
theorem Lkd.back {n c : Nat} {xs : List (Nat × D)} {a : Addr} {On ds : List Addr} {od : Addr → Obj} (l : Lkd G w H st n c xs a On ds) (m : Mo (w.lk fun r => if r = a then some On else w.T r) (lkd od ds H) w2 H2) (s : St G w2 H2 st2) (en : st2[n]? = some (.nk c xs)) :
    (∀ d ∈ ds, ∃ o u, H2 d = some (.frz o u) ∧ isDk u) ∧ (∀ d ∈ ds, d ∈ w2.O) ∧ St G (w2.lk fun r => if r = a then none else w2.T r) (thw ds H2) (st2.set n (.ni c xs)) := by
  have ta : w2.T a = some On := (m.kt a On (by show (if a = a then some On else w.T a) = _; rw [if_pos rfl])).1
  have keep : ∀ b ∈ On, ∀ o, lkd od ds H b = some o → (∀ ps, o ≠ .tbl ps) → Kp o (H2 b) := (m.kt a On (by show (if a = a then some On else w.T a) = _; rw [if_pos rfl])).2.2
  have fz : ∀ d ∈ ds, ∃ o u, H2 d = some (.frz o u) ∧ isDk u := fun d z => by
    obtain ⟨u, e, hu⟩ := l.dk d z
    have e1 : lkd od ds H d = some (.frz (od d) u) := by unfold lkd; rw [if_pos z, e]; rfl
    exact ⟨_, u, keep d (l.sub d z) _ e1 (fun ps e => by cases e), hu⟩
  have ea : w2.ρ[n]? = some a := by
    obtain ⟨more, e⟩ := m.sp
    rw [e]
    exact (List.getElem?_append_left (List.getElem?_eq_some_iff.mp l.ea).1).trans l.ea
  have ha : a ∈ w2.ρ := List.mem_of_getElem? ea
  obtain ⟨st1, st2', as1, as2, O1, On2, O2, q1, q2, q3, q4, h1, h2, h3⟩ := s.nr.at en ea
  have as_nd := s.wf.nd
  rw [q2] at as_nd
  have r1 := List.nodup_append.mp as_nd
  have n1 : ∀ r ∈ as1, r ≠ a := fun r z e => r1.2.2 r z a (by simp) e
  have n2 : ∀ r ∈ as2, r ≠ a := fun r z e => (List.nodup_cons.mp r1.2.1).1 (e ▸ z)
  have hnd := s.nd
  rw [q4] at hnd
  have d1 := List.nodup_append.mp hnd
  have d2 := List.nodup_append.mp d1.2.1
  cases h2 with
  | nk t g1 g2 g3 g4 hz =>
    rw [ta] at t
    cases t
    have dsO : ∀ d ∈ ds, d ∈ w2.O := fun d z => by rw [q4]; simp [l.sub d z]
    have fds : ∀ d ∈ ds, ¬ w2.F d := fun d z q => (s.wf.fr d q).2 (dsO d z)
    have rds : ∀ r ∈ w2.ρ, r ∉ ds := fun r z q => (s.wf.ra r z).2 (dsO r q)
    have o1 : ∀ b ∈ O1, b ∉ ds := fun b z q => d1.2.2 b z b (List.mem_append_left _ (l.sub b q)) rfl
    have o2 : ∀ b ∈ O2, b ∉ ds := fun b z q => d2.2.2 b (l.sub b q) b z rfl
    have eF : ∀ b, w2.F b → thw ds H2 b = H2 b := fun b z => thw_out fun q => fds b q z
    have some' : ∀ {b}, (∃ o, H2 b = some o ∧ ∀ ps, o ≠ .tbl ps) → ∃ o, thw ds H2 b = some o ∧ ∀ ps, o ≠ .tbl ps := fun {b} ⟨o, e, n⟩ => by
      by_cases z : b ∈ ds
      · unfold thw
        rw [if_pos z, e]
        exact ⟨_, rfl, tbl_unfO n⟩
      · rw [thw_out z]; exact ⟨o, e, n⟩
    refine ⟨fz, dsO, ⟨fun b z => some' (s.wf.fa b z), s.wf.fr, s.wf.nd, fun b z => ⟨some' (s.wf.ra b z).1, (s.wf.ra b z).2⟩, fun b z => some' (s.wf.oa b z), tabsN_out (fun d z => let ⟨o, u, e, hu⟩ := fz d z; ⟨_, e, .inr ⟨o, u, rfl⟩⟩) (fun b z => thw_out z) s.wf.tb⟩, ?_, s.nd, fun r L h => ?_⟩
    · have es : st2.set n (.ni c xs) = st1 ++ .ni c xs :: st2' := by
        rw [q1, List.set_append_right _ _ (by omega), ← q3]
        simp
      rw [es]
      show NRs G _ _ _ w2.ρ w2.O
      rw [q2, q4]
      refine NRs.join (h1.tw eF (fun r z => ⟨thw_out (rds r (by rw [q2]; simp [z])), if_neg (n1 r z)⟩) fun b z => thw_out (o1 b z)) (.cons (.ni (by rw [thw_out (rds a ha)]; exact g1) g2 g3 (g4.unlk eF fun b hb => ?_)) (h3.tw eF (fun r z => ⟨thw_out (rds r (by rw [q2]; simp [z])), if_neg (n2 r z)⟩) fun b z => thw_out (o2 b z)))
      by_cases z : b ∈ ds
      · unfold thw PV.unf
        rw [if_pos z]
      · obtain ⟨ys, e⟩ := l.lst b hb z
        have e1 : H2 b = some (.lst ys) := keep b hb (.lst ys) (by rw [lkd_out z]; exact e) fun ps e => by cases e
        rw [thw_out z, e1, unf_some e1]
        rfl
    · have h : (if r = a then none else w2.T r) = some L := h
      by_cases er : r = a
      · rw [if_pos er] at h; cases h
      · rw [if_neg er] at h
        obtain ⟨m, nd', e1, e2, e3⟩ := s.lk r L h
        refine ⟨m, nd', e1, ?_, e3⟩
        rw [List.getElem?_set_ne]
        · exact e2
        · rintro rfl
          rw [ea] at e1
          exact er (Option.some.inj e1).symm
end
end PV

/-! part PV75 -/
/-! PV75: the rules for `wl`: expressions and statements with an instance locked. -/
noncomputable section
namespace PV
open PySem PySem.W PySem.Spec PyProof.Rows L2 LamX NdefX
section
variable {G : Gx} {w w0 w2 wL : Wd} {H H' H0 H2 HL : Hp} {st st2 : Sto} {T' : Addr → Option (List Addr)}
theorem SL.tw (e : ∀ a, w.F a → H' a = H a) : ∀ {σ : L2.St} {ρ : Env} {Os : List (List Addr)}, SL G w H σ ρ Os → (∀ a ∈ Os.flatten, H' a = H a) → SL G (w.lk T') H' σ ρ Os
  | _, _, _, .nil, _ => .nil
  | _, _, _, .no h, ha => .no (SL.tw e h fun a hm => ha a (by simpa using hm))
  | _, _, _, .so hv h, ha => .so (hv.tw e fun a hm => ha a (by simp [hm])) (SL.tw e h fun a hm => ha a (by
      rw [List.flatten_cons]; exact List.mem_append_right _ hm))
theorem slotR_ok {ρ : Env} {i : Nat} {st : Sto} : (∃ n, ρ[i]? = some (some (0, .ref n)) ∧ slotR ρ i st = .ok n st) ∨ slotR ρ i st = .no := by
  unfold slotR
  generalize ρ[i]? = z
  rcases z with _ | _ | ⟨_ | l, d⟩
  · exact .inr rfl
  · exact .inr rfl
  · cases d with
    | ref n => exact .inl ⟨n, rfl, rfl⟩
    | _ => exact .inr rfl
  · cases d <;> exact .inr rfl
theorem KR.unl {Os : List (List Addr)} {H1 : Hp} {x : KD} {v : V} {ds : List Addr} (h : KR G Os w2 H2 H1 x v) (hk : keepB x.1 = true) (hO : ∀ d ∈ ds, d ∈ w2.O) (hF : ∀ b, w2.F b → b ∉ ds) (h1 : ∀ b, H1 b = none → H b = none) : KR G Os (w2.lk T') (thw ds H2) H x v := by
  have eF : ∀ b, w2.F b → thw ds H2 b = H2 b := fun b z => thw_out (hF b z)
  obtain ⟨k, d⟩ := x
  cases k with
  | fz => exact FR.tw eF h
  | an =>
    obtain ⟨O, a1, a2, a3⟩ := h
    exact ⟨O, fun l => (a1 l).tw eF fun b z => thw_out fun q => (a3 b z).2 (hO b q), a2, fun b z => ⟨h1 b (a3 b z).1, (a3 b z).2⟩⟩
  | fr l =>
    obtain ⟨O, a1, a2, a3⟩ := h
    exact ⟨O, a1.tw eF fun b z => thw_out fun q => (a3 b z).2 (hO b q), a2, fun b z => ⟨h1 b (a3 b z).1, (a3 b z).2⟩⟩
  | bo l => cases hk
  | lk => cases hk
theorem XR.unl {p : D} {d : Option Addr} {ds : List Addr} (h : XR G w2 H2 p d) (hz : ∀ d ∈ ds, ∃ o u, H2 d = some (.frz o u) ∧ isDk u) (hF : ∀ b, w2.F b → b ∉ ds) : XR G (w2.lk T') (thw ds H2) p d := by
  rcases h with h | ⟨dd, v, e1, e2, f⟩
  · exact .inl h
  · refine .inr ⟨dd, v, e1, ?_, FR.tw (fun b z => thw_out (hF b z)) f⟩
    rw [thw_out]
    · exact e2
    · intro z
      obtain ⟨o, u, e, _⟩ := hz _ z
      rw [e2] at e
      cases e
theorem wlM_nk {α : Type} {n c : Nat} {fs : List (Nat × D)} {m : M α} (e : st[n]? = some (.nk c fs)) : wlM n m st = m st := by
  unfold wlM
  rw [e]
theorem wlM_ni {α : Type} {n c : Nat} {fs : List (Nat × D)} {m : M α} (e : st[n]? = some (.ni c fs)) : wlM n m st = match m (st.set n (.nk c fs)) with
    | .ok a s' => @ite _ (s'[n]? = some (.nk c fs)) (Classical.propDecidable _) (.ok a (s'.set n (.ni c fs))) .no
    | .ex e p s' => @ite _ (s'[n]? = some (.nk c fs)) (Classical.propDecidable _) (.ex e p (s'.set n (.ni c fs))) .no
    | .no => .no := by
  unfold wlM
  rw [e]
  try rfl
end
section
variable {X : Cx} {G : Gx} {P : Pr} {pos : Pos}
end
end PV

/-! part PV76 -/
/-! PV76: an instance's own field is written in place: the world. -/
noncomputable section
namespace PV
open PySem PySem.W PySem.Spec PyProof.Rows L2 LamX NdefX
section
variable {G : Gx} {w w0 wL : Wd} {H H' H0 HL : Hp} {st : Sto}
theorem FDs.own : ∀ {xs : List (Nat × D)} {vs : List V} {O : List Addr} {k : Nat} {d : D}, FDs G w H xs vs O → xs[k]? = some (1, d) → ∃ v Oj, vs[k]? = some v ∧ VR G w H 1 Oj d v ∧ (∀ c ∈ Oj, c ∈ O) ∧
    ∀ {H' : Hp} {d1 : D}, (∀ a, w.F a → H' a = H a) → O.Nodup → (∀ c ∈ O, c ∉ Oj → H' c = H c) → isR d1 = false → VR G w H' 1 Oj d1 v → FDs G w H' (xs.set k (1, d1)) vs O
  | _, _, _, _, _, .nil, e => by simp at e
  | _, _, _, 0, _, .cons (O := O1) (O' := O2) n h hs, e => by
    simp at e
    obtain ⟨rfl, rfl⟩ := e
    exact ⟨_, O1, rfl, h, fun c hc => List.mem_append_left _ hc, fun eF nd eO nr new => .cons nr new (FDs.tw (T' := w.T) eF hs fun c hc => eO c (List.mem_append_right _ hc) fun z => (List.nodup_append.mp nd).2.2 _ z _ hc rfl)⟩
  | _, _, _, k + 1, _, .cons (O := O1) (O' := O2) n h hs, e => by
    obtain ⟨v, Oj, e1, h1, sub, q⟩ := FDs.own hs (by simpa using e)
    exact ⟨v, Oj, by simpa using e1, h1, fun c hc => List.mem_append_right _ (sub c hc), fun eF nd eO nr new => .cons n (VR.tw (T' := w.T) eF h fun c hc => eO c (List.mem_append_left _ hc) fun z => (List.nodup_append.mp nd).2.2 _ hc _ (sub c z) rfl) (q eF (List.nodup_append.mp nd).2.1 (fun c hc z => eO c (List.mem_append_right _ hc) z) nr new)⟩
/-- an own field of an instance of the store: what it is, and how it is written -/
theorem St.own {n c k : Nat} {xs : List (Nat × D)} {d : D} (s : St G w H st) (en : st[n]? = some (.ni c xs)) (ek : xs[k]? = some (1, d)) : ∃ a v Oj C dx fs vs, w.ρ[n]? = some a ∧ H a = some (.ins C dx ((fs.take xs.length).zip vs)) ∧ G.cl c = some (C, fs) ∧ xs.length ≤ fs.length ∧ vs.length = xs.length ∧ vs[k]? = some v ∧ VR G w H 1 Oj d v ∧ (∀ b ∈ Oj, b ∈ w.O) ∧ (∀ r L, w.T r = some L → ∀ b ∈ L, b ∉ Oj) ∧
    ∀ {b : Addr} {u0 u1 : HO} {d1 : D}, b ∈ Oj → H b = some u0 → PlainO u0 → PlainO u1 → isR d1 = false → VR G w (upd H b u1) 1 Oj d1 v → St G w (upd H b u1) (st.set n (.ni c (xs.set k (1, d1)))) := by
  have hn : n < w.ρ.length := by rw [← s.nr.len]; exact (List.getElem?_eq_some_iff.mp en).1
  obtain ⟨a, ea⟩ : ∃ a, w.ρ[n]? = some a := ⟨_, List.getElem?_eq_getElem hn⟩
  have ha : a ∈ w.ρ := List.mem_of_getElem? ea
  obtain ⟨st1, st2, as1, as2, O1, On, O2, q1, q2, q3, q4, h1, h2, h3⟩ := s.nr.at en ea
  have hnd := s.nd
  rw [q4] at hnd
  have d1 := List.nodup_append.mp hnd
  have d2 := List.nodup_append.mp d1.2.1
  cases h2 with
  | @ni _ C dx _ fs _ vs _ g1 g2 g3 g4 =>
    obtain ⟨v, Oj, e1, hv, sub, put⟩ := g4.own ek
    have onO : ∀ d ∈ On, d ∈ w.O := fun d z => by rw [q4]; simp [z]
    refine ⟨a, v, Oj, C, dx, fs, vs, ea, g1, g2, g3, g4.len.symm, e1, hv, fun b z => onO b (sub b z), fun r L h b hb z => ?_, fun {b u0 u1 dn} hb hu p0 p1 nr new => ?_⟩
    · have hOn : b ∈ On := sub b z
      obtain ⟨m, nd', e1, e2, e3⟩ := s.lk r L h
      have mn : m ≠ n := fun z => by subst z; rw [en] at e2; cases e2; cases e3
      rw [q1] at e2
      rw [q2] at e1
      have l1 : as1.length = n := by rw [← h1.len]; exact q3
      rcases Nat.lt_or_gt_of_ne mn with z | z
      · rw [List.getElem?_append_left (by omega)] at e1 e2
        obtain ⟨O', s1, s2⟩ := h1.getO e2 e1
        cases s2 with
        | nk t _ _ _ _ _ =>
          rw [h] at t
          cases t
          exact d1.2.2 b (s1 b hb) b (List.mem_append_left _ hOn) rfl
        | nd t _ _ => rw [h] at t; cases t; exact nomatch hb
        | _ => cases e3
      · rw [List.getElem?_append_right (by omega)] at e1 e2
        obtain ⟨j, hj⟩ : ∃ j, m - n = j + 1 := ⟨m - n - 1, by omega⟩
        rw [l1, hj, List.getElem?_cons_succ] at e1
        rw [q3, hj, List.getElem?_cons_succ] at e2
        obtain ⟨O', s1, s2⟩ := h3.getO e2 e1
        cases s2 with
        | nk t _ _ _ _ _ =>
          rw [h] at t
          cases t
          exact d2.2.2 b hOn b (s1 b hb) rfl
        | nd t _ _ => rw [h] at t; cases t; exact nomatch hb
        | _ => cases e3
    · have bOn := sub b hb
      have bO := onO b bOn
      have eF : ∀ x, w.F x → upd H b u1 x = H x := fun x z => upd_ne fun e => (s.wf.fr x z).2 (e ▸ bO)
      have eρ : ∀ x ∈ w.ρ, upd H b u1 x = H x := fun x z => upd_ne fun e => (s.wf.ra x z).2 (e ▸ bO)
      refine ⟨⟨fun x z => some_mvG p1 (s.wf.fa x z), s.wf.fr, s.wf.nd, fun x z => ⟨some_mvG p1 (s.wf.ra x z).1, (s.wf.ra x z).2⟩, fun x z => some_mvG p1 (s.wf.oa x z), tabsN_mvG hu p0 s.wf.tb⟩, ?_, s.nd, s.lkset en fun _ _ e => by cases e⟩
      have es : st.set n (.ni c (xs.set k (1, dn))) = st1 ++ .ni c (xs.set k (1, dn)) :: st2 := by
        rw [q1, List.set_append_right _ _ (by omega), ← q3]
        simp
      rw [es, q2, q4]
      refine NRs.join (NRs.tw (T' := w.T) eF h1 (fun r z => ⟨eρ r (by rw [q2]; simp [z]), rfl⟩) fun x z => upd_ne fun e => d1.2.2 x z x (List.mem_append_left _ (e ▸ bOn)) rfl) (.cons (.ni (by rw [eρ a ha, List.length_set]; exact g1) g2 (by rw [List.length_set]; exact g3) (put eF d2.1 (fun x hx nx => upd_ne fun e => nx (e ▸ hb)) nr new)) (NRs.tw (T' := w.T) eF h3 (fun r z => ⟨eρ r (by rw [q2]; simp [z]), rfl⟩) fun x z => upd_ne fun e => d2.2.2 x (e ▸ bOn) x z rfl))
/-- the world with it written -/
theorem At.own {σ : L2.St} {ρ : Env} {Os : List (List Addr)} {st' : Sto} {b : Addr} {u0 u1 : HO} (a : At G w0 H0 wL HL w H σ ρ Os st) (bO : b ∈ w.O) (hT : ∀ r L, w.T r = some L → b ∉ L) (hu : H b = some u0) (p1 : PlainO u1) (s : St G w (upd H b u1) st') : At G w0 H0 wL HL w (upd H b u1) σ ρ Os st' := by
  have wf := a.g.s.wf
  have nF : ¬ w.F b := fun z => (wf.fr b z).2 bO
  have nR : b ∉ w.ρ := fun z => (wf.ra b z).2 bO
  have eF : ∀ x, w.F x → upd H b u1 x = H x := fun x z => upd_ne fun e => nF (e ▸ z)
  have eO : ∀ x ∈ Os.flatten, upd H b u1 x = H x := fun x z => upd_ne fun e => a.g.ap x z (e ▸ bO)
  have kt : ∀ {wq : Wd} {Hq : Hp}, (∀ r L, wq.T r = some L → w.T r = some L ∧ (∀ o, Hq r = some o → (∀ ps, o ≠ .tbl ps) → H r = some o) ∧ ∀ c ∈ L, ∀ o, Hq c = some o → (∀ ps, o ≠ .tbl ps) → Kp o (H c)) → ∀ r L, wq.T r = some L → w.T r = some L ∧ (∀ o, Hq r = some o → (∀ ps, o ≠ .tbl ps) → upd H b u1 r = some o) ∧ ∀ c ∈ L, ∀ o, Hq c = some o → (∀ ps, o ≠ .tbl ps) → Kp o (upd H b u1 c) := fun {wq Hq} q r L h => by
    obtain ⟨t, k, l⟩ := q r L h
    refine ⟨t, fun o e n => ?_, fun c hc o e n => ?_⟩
    · rw [upd_ne (fun z => nR (by rw [← z]; exact a.g.s.tρ r L t))]; exact k o e n
    · rw [upd_ne (fun z => hT r L t (by rw [← z]; exact hc))]; exact l c hc o e n
  refine ⟨⟨a.po.fm, a.po.fn, a.po.sp, a.po.on, fun x o h hf hn ho ht => ?_, fun x o h hf hn ho ht => ?_, fun x h => ?_, kt a.po.kt, fun x n => a.po.nu x (NT.updP p1.2.2 p1.1 n)⟩, ⟨a.mo.fm, fun x hx o e => ?_, a.mo.sp, kt a.mo.kt⟩, ⟨s, a.g.sl.tw (T' := w.T) eF eO, a.g.nd, a.g.ap⟩, a.nw⟩
  · rw [upd_ne]
    · exact a.po.kn x o h hf hn ho ht
    · rintro rfl
      rcases a.po.on x bO with z | z
      · exact ho z
      · rw [z] at h; cases h
  · rw [eF x (a.po.fm x hf)]
    exact a.po.kf x o h hf hn ho ht
  · by_cases c : x = b
    · subst c
      rw [upd_same] at h
      cases h
    · rw [upd_ne c] at h
      exact a.po.th x h
  · rw [eF x (a.mo.fm x hx)]
    exact a.mo.kp x hx o e
end
end PV

/-! part PV77 -/
/-! PV77: an instance's own field is written in place: the statements. -/
noncomputable section
namespace PV
open PySem PySem.W PySem.Spec PyProof.Rows L2 LamX NdefX
def tW (G : Gx) (P : Pr) (X : Cx) (W : WX) (e : E) : TE := fun σ H Q => ∃ ds : List Addr, ds.Nodup ∧ (∀ d ∈ ds, ∃ u, H d = some u ∧ isDk u) ∧ ∀ od, (∀ d ∈ ds, NFd X d) → ∃ i : List Addr, tE G P (wW X i W) e σ (lkd od ds H) fun v H1 => Bk ds H1 (Q v)
section
variable {X : Cx} {G : Gx} {P : Pr} {W : WX} {w0 w wL : Wd} {H0 H HL : Hp} {σ : L2.St} {ρ : Env} {Os : List (List Addr)} {st : Sto} {E : Ends}
theorem OutS.slotR {i : Nat} {f : Nat → M (Fl × Env)} (h : OutS G w0 H0 wL HL ((PV.slotR ρ i >>= f) st) W E) : ∃ n, ρ[i]? = some (some (0, .ref n)) ∧ OutS G w0 H0 wL HL (f n st) W E := by
  rw [M.run_bind] at h
  rcases slotR_ok (ρ := ρ) (i := i) (st := st) with ⟨n, hn, e1⟩ | e1 <;> rw [e1] at h
  · exact ⟨n, hn, h⟩
  · exact h.elim
theorem OutS.put {y : KD} {f : D → M (Fl × Env)} (h : OutS G w0 H0 wL HL ((PV.put y >>= f) st) W E) : keepB y.1 = true ∧ isR y.2 = false ∧ OutS G w0 H0 wL HL (f y.2 st) W E := by
  unfold PV.put at h
  cases c : putB y with
  | true =>
    simp only [c, if_true] at h
    unfold putB at c
    rw [Bool.and_eq_true] at c
    exact ⟨c.1, by simpa using c.2, h⟩
  | false => simp only [c, Bool.false_eq_true, if_false] at h; exact h.elim
end
section
variable {X : Cx} {G : Gx} {P : Pr} {pos : Pos} {c i k : Nat} {C : Addr} {fs : List Str} {x f : Str} {npos apos spos : Pos}
end
end PV

/-! part PV78 -/
/-! PV78: del x.f[k]; x.f[k] = e of a list. -/
noncomputable section
namespace PV
open PySem PySem.W PySem.Spec PyProof.Rows L2 LamX NdefX
section
variable {X : Cx} {G : Gx} {P : Pr} {pos : Pos} {c i k : Nat} {C : Addr} {fs : List Str} {x f : Str} {npos apos spos : Pos}
end
end PV

/-! part PV79 -/
/-! PV79: an own dict or list comes to stand in a new field. -/
noncomputable section
namespace PV
open PySem PySem.W PySem.Spec PyProof.Rows L2 LamX NdefX
section
variable {G : Gx} {w : Wd} {H : Hp}
def Wd.wO (w : Wd) (Oq : List Addr) : Wd := { w with O := Oq }
mutual
theorem FR.wO {Oq : List Addr} : ∀ {d : D} {v : V}, FR G w H d v → FR G (w.wO Oq) H d v
  | _, _, .non => .non
  | _, _, .bl b => .bl b
  | _, _, .int i => .int i
  | _, _, .str x => .str x
  | _, _, .tup h hs => .tup h (FRs.wO hs)
  | _, _, .lst h hs => .lst h (FRs.wO hs)
  | _, _, .ins hf h hc hl hs => .ins hf h hc hl (FRs.wO hs)
  | _, _, .ref h => .ref h
  | _, _, .tx hf hd h hs => .tx hf hd h (FRs.wO hs)
  | _, _, .dic hf h hs => .dic hf h (FRs.wO hs)
  | _, _, .dit hf h hs => .dit hf h (FRs.wO hs)
theorem FRs.wO {Oq : List Addr} : ∀ {ds : List D} {vs : List V}, FRs G w H ds vs → FRs G (w.wO Oq) H ds vs
  | _, _, .nil => .nil
  | _, _, .cons n h hs => .cons n (FR.wO h) (FRs.wO hs)
end
mutual
theorem VR.wO {Oq : List Addr} : ∀ {l : Nat} {O : List Addr} {d : D} {v : V}, VR G w H l O d v → VR G (w.wO Oq) H l O d v
  | _, _, _, _, .zero h => .zero h.wO
  | _, _, _, _, .nc hc h => .nc hc h.wO
  | _, _, _, _, .lst h hf hn hs => .lst h hf hn (VRs.wO hs)
  | _, _, _, _, .dic h hf hn hs => .dic h hf hn (VRs.wO hs)
  | _, _, _, _, .dit h hf hn hs => .dit h hf hn (VRs.wO hs)
theorem VRs.wO {Oq : List Addr} : ∀ {l : Nat} {O : List Addr} {ds : List D} {vs : List V}, VRs G w H l O ds vs → VRs G (w.wO Oq) H l O ds vs
  | _, _, _, _, .nil => .nil
  | _, _, _, _, .cons n h hs => .cons n (VR.wO h) (VRs.wO hs)
end
theorem FDs.wO {Oq : List Addr} : ∀ {xs : List (Nat × D)} {vs : List V} {O : List Addr}, FDs G w H xs vs O → FDs G (w.wO Oq) H xs vs O
  | _, _, _, .nil => .nil
  | _, _, _, .cons n h hs => .cons n h.wO (FDs.wO hs)
theorem NRs.wO {Oq : List Addr} : ∀ {st : Sto} {as O : List Addr}, NRs G w H st as O → NRs G (w.wO Oq) H st as O
  | _, _, _, .nil => .nil
  | _, _, _, .cons (.nl h hs) r => .cons (.nl h hs.wO) (NRs.wO r)
  | _, _, _, .cons (.ni h hc hl hs) r => .cons (.ni h hc hl hs.wO) (NRs.wO r)
  | _, _, _, .cons (.nk t h hc hl hs hz) r => .cons (.nk t h hc hl hs.wO hz) (NRs.wO r)
  | _, _, _, .cons (.nd t h hs) r => .cons (.nd t h hs.wO) (NRs.wO r)
theorem SL.wO {Oq : List Addr} : ∀ {σ : L2.St} {ρ : Env} {Os : List (List Addr)}, SL G w H σ ρ Os → SL G (w.wO Oq) H σ ρ Os
  | _, _, _, .nil => .nil
  | _, _, _, .no h => .no (SL.wO h)
  | _, _, _, .so hv h => .so hv.wO (SL.wO h)
theorem FDs.snoc {d : D} {v : V} {O2 : List Addr} (n : isR d = false) (h2 : VR G w H 1 O2 d v) : ∀ {xs : List (Nat × D)} {vs : List V} {O : List Addr}, FDs G w H xs vs O → FDs G w H (xs ++ [(1, d)]) (vs ++ [v]) (O ++ O2)
  | _, _, _, .nil => by simpa using FDs.cons n h2 .nil
  | _, _, _, .cons n1 h hs => by
    rw [List.append_assoc]
    exact .cons n1 h (FDs.snoc n h2 hs)
end
section
variable {X : Cx} {G : Gx} {P : Pr} {pos : Pos} {c k : Nat} {C : Addr} {fs : List Str} {f : Str}
end
end PV

/-! part PV80 -/
/-! PV80: tests under a lock; what the new terms compute. -/
noncomputable section
namespace PV
open PySem PySem.W PySem.Spec PyProof.Rows L2 LamX NdefX
section
variable {X : Cx} {G : Gx} {P : Pr} {pos : Pos}
end
/-! ### what is computed -/
section
variable {P : Pr} {ρ : Env} {st : Sto} {X : Nat → D → Sto → Prop}
@[simp] theorem wp_slotR {i : Nat} {Q : Nat → Sto → Prop} : Wp (slotR ρ i) st Q X ↔ ∃ n, ρ[i]? = some (some (0, .ref n)) ∧ Q n st := by
  rcases slotR_ok (ρ := ρ) (i := i) (st := st) with ⟨n, hn, e⟩ | e
  · unfold Wp
    rw [e]
    exact ⟨fun h => ⟨n, hn, h⟩, fun ⟨m, hm, h⟩ => by rw [hn] at hm; cases hm; exact h⟩
  · unfold Wp
    rw [e]
    refine ⟨fun h => h.elim, fun ⟨m, hm, h⟩ => ?_⟩
    unfold slotR at e
    rw [hm] at e
    cases e
theorem wlM_wp {α : Type} {n c : Nat} {fs : List (Nat × D)} {m : M α} {Q : α → Sto → Prop} (e : st[n]? = some (.ni c fs)) : Wp (wlM n m) st Q X ↔ Wp m (st.set n (.nk c fs)) (fun x s => s[n]? = some (.nk c fs) ∧ Q x (s.set n (.ni c fs))) (fun c' p s => s[n]? = some (.nk c fs) ∧ X c' p (s.set n (.ni c fs))) := by
  unfold Wp
  rw [wlM_ni e]
  cases m (st.set n (.nk c fs)) with
  | ok a s =>
    dsimp only
    by_cases h : s[n]? = some (.nk c fs)
    · rw [if_pos h]; exact ⟨fun q => ⟨h, q⟩, fun q => q.2⟩
    · rw [if_neg h]; exact ⟨fun q => q.elim, fun q => absurd q.1 h⟩
  | ex c' p s =>
    dsimp only
    by_cases h : s[n]? = some (.nk c fs)
    · rw [if_pos h]; exact ⟨fun q => ⟨h, q⟩, fun q => q.2⟩
    · rw [if_neg h]; exact ⟨fun q => q.elim, fun q => absurd q.1 h⟩
  | no => rfl
@[simp] theorem wlM_0 {α : Type} {c : Nat} {fs : List (Nat × D)} {m : M α} {r : Sto} {Q : α → Sto → Prop} : Wp (wlM 0 m) (.ni c fs :: r) Q X ↔ Wp m (.nk c fs :: r) (fun x s => s[0]? = some (.nk c fs) ∧ Q x (s.set 0 (.ni c fs))) (fun c' p s => s[0]? = some (.nk c fs) ∧ X c' p (s.set 0 (.ni c fs))) := wlM_wp rfl
@[simp] theorem wlM_1 {α : Type} {c : Nat} {fs : List (Nat × D)} {m : M α} {a : Nd} {r : Sto} {Q : α → Sto → Prop} : Wp (wlM 1 m) (a :: .ni c fs :: r) Q X ↔ Wp m (a :: .nk c fs :: r) (fun x s => s[1]? = some (.nk c fs) ∧ Q x (s.set 1 (.ni c fs))) (fun c' p s => s[1]? = some (.nk c fs) ∧ X c' p (s.set 1 (.ni c fs))) := wlM_wp rfl
@[simp] theorem wlM_0k {α : Type} {c : Nat} {fs : List (Nat × D)} {m : M α} {r : Sto} {Q : α → Sto → Prop} : Wp (wlM 0 m) (.nk c fs :: r) Q X ↔ Wp m (.nk c fs :: r) Q X := by
  unfold Wp
  rw [wlM_nk (n := 0) rfl]
@[simp] theorem wlM_1k {α : Type} {c : Nat} {fs : List (Nat × D)} {m : M α} {a : Nd} {r : Sto} {Q : α → Sto → Prop} : Wp (wlM 1 m) (a :: .nk c fs :: r) Q X ↔ Wp m (a :: .nk c fs :: r) Q X := by
  unfold Wp
  rw [wlM_nk (n := 1) rfl]
@[simp] theorem wp_wl {i : Nat} {e : E} {Q : KD → Sto → Prop} : Wp (evE P (.wl i e) ρ) st Q X ↔ ∃ n, ρ[i]? = some (some (0, .ref n)) ∧ Wp (wlM n (evE P e ρ)) st (fun x s => keepB x.1 = true ∧ Q x s) X := by
  rw [evE]
  simp only [wp_bind, wp_slotR, wp_ifno, wp_pure]
@[simp] theorem wp_wlS {i : Nat} {e : S} {Q : Fl × Env → Sto → Prop} : Wp (evS P (.wl i e) ρ) st Q X ↔ ∃ n, ρ[i]? = some (some (0, .ref n)) ∧ Wp (wlM n (evS P e ρ)) st Q X := by
  rw [evS]
  simp only [wp_bind, wp_slotR]
@[simp] theorem wp_wlK {n : Nat} {m : M KD} {Q : KD → Sto → Prop} : Wp (wlK n m) st Q X ↔ Wp (wlM n m) st (fun x s => keepB x.1 = true ∧ Q x s) X := by
  unfold wlK
  simp only [wp_bind, wp_ifno, wp_pure]
@[simp] theorem wp_fget0 {c c' k : Nat} {fs : List (Nat × D)} {r : Sto} {Q : D → Sto → Prop} : Wp (fgetM c 0 k) (.ni c' fs :: r) Q X ↔ Wp (ofO (fgetN c k (some (.ni c' fs)))) (.ni c' fs :: r) Q X := Iff.rfl
@[simp] theorem wp_fget1 {c c' k : Nat} {fs : List (Nat × D)} {a : Nd} {r : Sto} {Q : D → Sto → Prop} : Wp (fgetM c 1 k) (a :: .ni c' fs :: r) Q X ↔ Wp (ofO (fgetN c k (some (.ni c' fs)))) (a :: .ni c' fs :: r) Q X := Iff.rfl
theorem wp_fup {c k n : Nat} {fs : List (Nat × D)} {d1 : D} {Q : Unit → Sto → Prop} (e : st[n]? = some (.ni c fs)) : Wp (fupM c n k (fun _ => some d1)) st Q X ↔ (fgetN c k (some (.ni c fs))).isSome = true ∧ Q () (st.set n (.ni c (fs.set k (1, d1)))) := by
  unfold Wp fupM
  rw [e]
  cases fgetN c k (some (.ni c fs)) with
  | none => simp
  | some d => simp [fsetN]
@[simp] theorem wp_fup0 {c k : Nat} {fs : List (Nat × D)} {d1 : D} {r : Sto} {Q : Unit → Sto → Prop} : Wp (fupM c 0 k (fun _ => some d1)) (.ni c fs :: r) Q X ↔ (fgetN c k (some (.ni c fs))).isSome = true ∧ Q () (.ni c (fs.set k (1, d1)) :: r) := wp_fup rfl
@[simp] theorem wp_fup1 {c k : Nat} {fs : List (Nat × D)} {d1 : D} {a : Nd} {r : Sto} {Q : Unit → Sto → Prop} : Wp (fupM c 1 k (fun _ => some d1)) (a :: .ni c fs :: r) Q X ↔ (fgetN c k (some (.ni c fs))).isSome = true ∧ Q () (a :: .ni c (fs.set k (1, d1)) :: r) := wp_fup rfl
@[simp] theorem wp_setfo0 {c k : Nat} {d : D} {fs : List (Nat × D)} {r : Sto} {Q : Unit → Sto → Prop} : Wp (setfoM c (.ref 0) k d) (.ni c fs :: r) Q X ↔ k = fs.length ∧ Q () (.ni c (fs ++ [(1, d)]) :: r) := by
  unfold Wp setfoM putFo
  by_cases h : k = fs.length <;> simp [h]
@[simp] theorem wp_setfo1 {c k : Nat} {d : D} {fs : List (Nat × D)} {a : Nd} {r : Sto} {Q : Unit → Sto → Prop} : Wp (setfoM c (.ref 1) k d) (a :: .ni c fs :: r) Q X ↔ k = fs.length ∧ Q () (a :: .ni c (fs ++ [(1, d)]) :: r) := by
  unfold Wp setfoM putFo
  by_cases h : k = fs.length <;> simp [h]
section
variable {Q : Fl × Env → Sto → Prop} {c i k : Nat} {key e o : E}
@[simp] theorem wp_setfo : Wp (evS P (.setfo c o k e) ρ) st Q X ↔ Wp (evE P e ρ) st (fun x s => Wp (evE P o ρ) s (fun y s => keepB y.1 = true ∧ (ownB x.1 && isC x.2) = true ∧ Wp (setfoM c y.2 k x.2) s (fun _ s => Q (.nx, ρ) s) X) X) X := by
  rw [evS]
  simp only [wp_bind, keep, wp_ifno, wp_pure]
@[simp] theorem wp_fput : Wp (evS P (.fput c i k key e) ρ) st Q X ↔ Wp (evE P e ρ) st (fun y s => Wp (slotR ρ i) s (fun n s => Wp (fgetM c n k) s (fun d0 s => Wp (wlK n (evE P key ρ)) s (fun z s => Wp (PV.put y) s (fun d s => Wp (ofO (putFi z.2 d d0)) s (fun d1 s => Wp (fupM c n k (fun _ => some d1)) s (fun _ s => Q (.nx, ρ) s) X) X) X) X) X) X) X := by
  rw [evS]
  simp only [wp_bind, wp_pure]
@[simp] theorem wp_fputl : Wp (evS P (.fputl c i k key e) ρ) st Q X ↔ Wp (evE P e ρ) st (fun y s => Wp (slotR ρ i) s (fun n s => Wp (fgetM c n k) s (fun d0 s => Wp (wlK n (evE P key ρ)) s (fun z s => Wp (PV.put y) s (fun d s => Wp (ofO (putFl z.2 d d0)) s (fun d1 s => Wp (fupM c n k (fun _ => some d1)) s (fun _ s => Q (.nx, ρ) s) X) X) X) X) X) X) X := by
  rw [evS]
  simp only [wp_bind, wp_pure]
@[simp] theorem wp_fdel : Wp (evS P (.fdel c i k key) ρ) st Q X ↔ Wp (slotR ρ i) st (fun n s => Wp (fgetM c n k) s (fun d0 s => Wp (wlK n (evE P key ρ)) s (fun z s => Wp (ofO (delFi z.2 d0)) s (fun d1 s => Wp (fupM c n k (fun _ => some d1)) s (fun _ s => Q (.nx, ρ) s) X) X) X) X) X := by
  rw [evS]
  simp only [wp_bind, wp_pure]
end
section
variable {Q : KD → Sto → Prop} {c c' f : Nat} {fs : List (Nat × D)}
@[simp] theorem wp_fldVL {l : Nat} {d : D} : Wp (fldVL (l, d)) st Q X ↔ (if l = 0 ∨ isC d = false then Q (.fz, d) st else l = 1 ∧ Q (.lk, d) st) := by
  unfold fldVL
  dsimp only
  split
  · rfl
  · split
    · rename_i h; exact ⟨fun q => ⟨h, q⟩, fun q => q.2⟩
    · rename_i h; exact ⟨fun q => q.elim, fun q => absurd q.1 h⟩
theorem wp_fldk {n : Nat} (e : st[n]? = some (.nk c' fs)) : Wp (fldD c (.ref n) f) st Q X ↔ c' = c ∧ Wp (ofO fs[f]?) st (fun v s => Wp (fldVL v) s Q X) X := by
  have q : Wp (fldD c (.ref n) f) st Q X ↔ Wp (if c' = c then ofO fs[f]? >>= fldVL else no) st Q X := by
    show Wp (fldN c f st[n]?) st Q X ↔ _
    rw [e]
    rfl
  rw [q]
  by_cases e : c' = c
  · rw [if_pos e, wp_bind]
    exact ⟨fun h => ⟨e, h⟩, fun h => h.2⟩
  · rw [if_neg e]
    exact ⟨fun h => h.elim, fun h => absurd h.1 e⟩
@[simp] theorem wp_fldk0 {r : Sto} : Wp (fldD c (.ref 0) f) (.nk c' fs :: r) Q X ↔ c' = c ∧ Wp (ofO fs[f]?) (.nk c' fs :: r) (fun v s => Wp (fldVL v) s Q X) X := wp_fldk rfl
@[simp] theorem wp_fldk1 {a : Nd} {r : Sto} : Wp (fldD c (.ref 1) f) (a :: .nk c' fs :: r) Q X ↔ c' = c ∧ Wp (ofO fs[f]?) (a :: .nk c' fs :: r) (fun v s => Wp (fldVL v) s Q X) X := wp_fldk rfl
@[simp] theorem wp_clsk0 {Q : Nat → Sto → Prop} {r : Sto} : Wp (clsD (.ref 0)) (.nk c fs :: r) Q X ↔ Q c (.nk c fs :: r) := Iff.rfl
@[simp] theorem wp_clsk1 {Q : Nat → Sto → Prop} {a : Nd} {r : Sto} : Wp (clsD (.ref 1)) (a :: .nk c fs :: r) Q X ↔ Q c (a :: .nk c fs :: r) := Iff.rfl
end
end
end PV

/-! part PV81 -/
/-! PV81: sorted(d.values()). -/
noncomputable section
namespace RT
open PySem PySem.W PySem.Spec PyProof.Rows L2
section
variable {X : Cx}
end
end RT
namespace PV
open PySem PySem.W PySem.Spec PyProof.Rows L2 LamX NdefX RT
section
variable {X : Cx} {G : Gx} {P : Pr} {pos : Pos} {e : Expr} {te : TE} {p apos cpos : Pos}
end
end PV

/-! part PV82 -/
/-! PV82: the pairs of d.items(), gathered: the raw part. -/
noncomputable section
namespace RT
open PySem PySem.W PySem.Spec PyProof.Rows L2
def layT : List Addr → List (List V) → Hp → Hp
  | a :: as, x :: xs, H => layT as xs (upd H a (.tup x))
  | _, _, H => H
def TupsAt (h : Heap) (as : List Addr) (xs : List (List V)) : Prop := as.length = xs.length ∧ ∀ (j : Nat) (a : Addr) (x : List V), as[j]? = some a → xs[j]? = some x → ∃ us : List Value, h.get? a = some { cls := .type "tuple", data := .seq us.toArray } ∧ Vals x us ∧ x.length ≤ sizeLine
section
variable {X : Cx} {pins : List (Addr × Obj)} {σ : L2.St} {s : Shared} {h' : Heap}
end
end RT
namespace PV
open PySem PySem.W PySem.Spec PyProof.Rows L2 LamX NdefX RT
section
variable {X : Cx} {pins : List (Addr × Obj)} {σ : L2.St} {H : Hp}
end
end PV

/-! part PV83 -/
/-! PV83: list(d.items()), sorted(d.items()). -/
noncomputable section
namespace PV
open PySem PySem.W PySem.Spec PyProof.Rows L2 LamX NdefX RT
section
variable {G : Gx} {st : Sto}
end
section
variable {X : Cx} {G : Gx} {P : Pr} {pos : Pos} {e : Expr} {te : TE} {p apos cpos : Pos}
/-- what the pairs' gathering asks -/
def tItems (te : TE) (R : List V → Hp → VK → Prop) : TE := fun σ H Q => te σ H fun x H1 => ∃ d kvs, x = .ref d ∧ Rd H1 d (.dK kvs) ∧ ∀ as : List Addr, (∀ a ∈ as, H1 a = none) → as.Nodup → as.length = kvs.length → R (as.map V.ref) (layT as (kvs.map fun p => [kV p.1, p.2]) H1) Q
end
end PV

/-! part PV84 -/
/-! PV84: tuple(d.items()). -/
noncomputable section
namespace RT
open PySem PySem.W PySem.Spec PyProof.Rows L2
open AutoSeq1 (wpAny_loadPart')
section
variable {prog : Program} {w : World} {A : Around} {E : Value → Shared → Prop} {s : Shared}
end
end RT
namespace PV
open PySem PySem.W PySem.Spec PyProof.Rows L2 LamX NdefX RT
section
variable {X : Cx} {G : Gx} {P : Pr} {pos : Pos} {e : Expr} {te : TE} {p apos cpos : Pos}
end
end PV

/-! part PV85 -/
/-! PV85: a, b = e, f where a or b is a cell: the values may stay one's own. -/
noncomputable section
namespace PV
open PySem PySem.W PySem.Spec PyProof.Rows L2 LamX NdefX
section
variable {X : Cx} {G : Gx} {P : Pr} {pos : Pos}
end
end PV

/-! part PV86 -/
/-! PV86: sorted(d, key=lambda) of a dict. -/
noncomputable section
namespace PV
open PySem PySem.W PySem.Spec PyProof.Rows L2 LamX NdefX
section
variable {X : Cx} {G : Gx} {P : Pr} {pos : Pos}
end
end PV

/-! part PV87 -/
/-! PV87: plain help: in and not in, lists and tuples of numbers, texts, plain data. -/
namespace PV
open PySem L2
theorem any_eqv {α : Type} {n m : Nat} {e : α → D} {d : D} {p : PyData} (hd : gn m d = true) (h1 : toP d = some p) (h4 : PyData.eqv p p = true) : ∀ (l : List α) (ps : List PyData), (∀ x ∈ l, gn n (e x) = true) → toPs (l.map e) = some ps → ((ps.any fun z => PyData.eqv z p) = true ↔ ∃ x ∈ l, e x = d)
  | [], ps, _, h => by
    rw [List.map_nil, toPs] at h
    cases h
    simp
  | a :: l, ps, hl, h => by
    obtain ⟨q, e1, _, _, _⟩ := gd_toP _ (gn_gd _ (hl a (by simp)))
    rw [List.map_cons, toPs, e1] at h
    cases hp : toPs (l.map e) with
    | none => rw [hp] at h; cases h
    | some qs =>
      rw [hp] at h
      cases h
      have ih := any_eqv hd h1 h4 l qs (fun x hx => hl x (by simp [hx])) hp
      rw [List.any_cons, Bool.or_eq_true, ih]
      have ea : PyData.eqv q p = true ↔ e a = d := by
        constructor
        · exact fun z => gn_inj _ _ _ _ (hl a (by simp)) hd e1 h1 z
        · intro z
          rw [z, h1] at e1
          cases e1
          exact h4
      rw [ea]
      simp
theorem inSeq_gn {α : Type} {n m : Nat} {e : α → D} {d : D} {l : List α} {c : Bool} (hd : gn m d = true) (hl : ∀ x ∈ l, gn n (e x) = true) (h : c = true ↔ ∃ x ∈ l, e x = d) (hn : n ≤ 60 := by decide) (hm : m ≤ 64 := by decide) : inSeq d (l.map e) = some c := by
  obtain ⟨p, e1, e2, e3, e4⟩ := gd_toP _ (gn_gd _ hd)
  have gl : gd (n + 1) (.lst (l.map e)) = true := gn_gd _ (by
    rw [gn, List.all_eq_true]
    intro x hx
    obtain ⟨y, hy, rfl⟩ := List.mem_map.mp hx
    exact hl y hy)
  obtain ⟨q, f1, f2, f3, f4⟩ := gd_toP _ gl
  rw [toP] at f1
  cases hp : toPs (l.map e) with
  | none => rw [hp] at f1; cases f1
  | some ps =>
    rw [hp] at f1
    cases f1
    unfold inSeq
    rw [e1, hp]
    dsimp only
    rw [shaped_of e2 e3 hm, shaped_of f2 f3 (by omega)]
    simp only [Bool.and_self, if_true]
    congr 1
    rw [Bool.eq_iff_iff, any_eqv hd e1 e4 l ps hl hp, h]
section
variable {st : Sto} {X : Nat → D → Sto → Prop} {Q : Bool → Sto → Prop}
theorem inSeq_I (l : List Int) (k : Int) : inSeq (.int k) (l.map .int) = some (decide (k ∈ l)) := inSeq_gn (n := 0) (m := 0) rfl (fun _ _ => rfl) (by simp)
@[simp] theorem wp_inLI {l : List Int} {k : Int} : Wp (cmpD .In (.int k) (.lst (l.map .int))) st Q X ↔ Q (decide (k ∈ l)) st := by
  show Wp (ofO (inSeq (.int k) (l.map .int))) st Q X ↔ _
  rw [inSeq_I]
  simp
@[simp] theorem wp_ninLI {l : List Int} {k : Int} : Wp (cmpD .NotIn (.int k) (.lst (l.map .int))) st Q X ↔ Q (!decide (k ∈ l)) st := by
  show Wp (ofO (inSeq (.int k) (l.map .int)) >>= fun c => pure (!c)) st Q X ↔ _
  rw [inSeq_I]
  simp
@[simp] theorem wp_inTI {l : List Int} {k : Int} : Wp (cmpD .In (.int k) (.tup (l.map .int))) st Q X ↔ Q (decide (k ∈ l)) st := by
  show Wp (ofO (inSeq (.int k) (l.map .int))) st Q X ↔ _
  rw [inSeq_I]
  simp
@[simp] theorem wp_ninTI {l : List Int} {k : Int} : Wp (cmpD .NotIn (.int k) (.tup (l.map .int))) st Q X ↔ Q (!decide (k ∈ l)) st := by
  show Wp (ofO (inSeq (.int k) (l.map .int)) >>= fun c => pure (!c)) st Q X ↔ _
  rw [inSeq_I]
  simp
end
end PV

/-! part PV88 -/
/-! PV88: max(x, default=i); (i,) * n, its object known. -/
noncomputable section
namespace RT
open PySem PySem.W PySem.Spec PyProof.Rows L2
variable {X : Cx} {es : List Expr} {t : TA} {pos : Pos}
def tTupO (t : TA) : TE := fun σ H Q => t σ H fun xs H1 => xs.length ≤ sizeLine ∧ ∀ p (o : Obj), H1 p = none → o.dict = none → Q (.ref p) (upd H1 p (.frz o (.tup xs)))
def rRepTX (K : PySem.W.Frag) : R2 := fun x y H Q => ∃ l k xs, x = .ref l ∧ y = .int k ∧ SqT K H l xs ∧ xs ≠ [] ∧ 1 ≤ k ∧ k ≤ 1000 ∧ xs.length ≤ 1000 ∧ (k = 1 → Q (.ref l) H) ∧ ∀ p (o : Obj), H p = none → o.dict = none → Q (.ref p) (upd H p (.frz o (.tup (List.replicate k.toNat xs).flatten)))
/-- max(x, default=i) -/
def rMaxd (K : PySem.W.Frag) : List V → List V → Hp → VK → Prop := fun vs zs H Q => ∃ (a : Addr) (xs : List V) (ps : List PyData) (i : Int), vs = [.ref a] ∧ zs = [.int i] ∧ SqL K H a xs ∧ DpAll K H xs ps ∧ AlikeAll ps ∧ PyData.depthAll ps ≤ 16 ∧ (ps = [] → Q (.int i) H) ∧
  ∀ p qs, ps = p :: qs → ∀ (j : Nat) (v : V), xs[j]? = some v → ps[j]? = some (maxD p qs) → Q v H
end RT
namespace PV
open PySem PySem.W PySem.Spec PyProof.Rows L2 LamX NdefX
section
variable {X : Cx} {G : Gx} {P : Pr} {pos : Pos}
end
end PV

/-! part PV89 -/
/-! PV89: plain help, taken out of k04's mathematics: calls at a known state; the least of a list by its data; lists in order; orders of texts, pairs, items; ranges. -/
noncomputable section
namespace PV
open PySem L2
theorem wpO {α : Type} {m : M α} {st st' : Sto} {a : α} {Q : α → Sto → Prop} {X : Nat → D → Sto → Prop} (h : m st = .ok a st') : Wp m st Q X ↔ Q a st' := by
  unfold Wp
  rw [h]
theorem wpX {α : Type} {m : M α} {st st' : Sto} {c : Nat} {p : D} {Q : α → Sto → Prop} {X : Nat → D → Sto → Prop} (h : m st = .ex c p st') : Wp m st Q X ↔ X c p st' := by
  unfold Wp
  rw [h]
/-! the least of a list by its data -/
def mnE {α : Type} (e : α → D) (a : α) (l : List α) : α := l.foldl (fun a y => if ltD (e y) (e a) then y else a) a
/-! a list that rises strictly is the order of each of its permutations -/
end PV

/-! part PV90 -/
/-! PV90: what the terms compute for the third object of the store. -/
noncomputable section
namespace PV
open PySem PySem.W PySem.Spec PyProof.Rows L2 LamX NdefX
section
variable {st : Sto} {X : Nat → D → Sto → Prop} {a b : Nd} {r : Sto}
@[simp] theorem wlM_2 {α : Type} {c : Nat} {fs : List (Nat × D)} {m : M α} {Q : α → Sto → Prop} : Wp (wlM 2 m) (a :: b :: .ni c fs :: r) Q X ↔ Wp m (a :: b :: .nk c fs :: r) (fun x s => s[2]? = some (.nk c fs) ∧ Q x (s.set 2 (.ni c fs))) (fun c' p s => s[2]? = some (.nk c fs) ∧ X c' p (s.set 2 (.ni c fs))) := wlM_wp rfl
@[simp] theorem wlM_2k {α : Type} {c : Nat} {fs : List (Nat × D)} {m : M α} {Q : α → Sto → Prop} : Wp (wlM 2 m) (a :: b :: .nk c fs :: r) Q X ↔ Wp m (a :: b :: .nk c fs :: r) Q X := by
  unfold Wp
  rw [wlM_nk (n := 2) rfl]
@[simp] theorem wp_fget2 {c c' k : Nat} {fs : List (Nat × D)} {Q : D → Sto → Prop} : Wp (fgetM c 2 k) (a :: b :: .ni c' fs :: r) Q X ↔ Wp (ofO (fgetN c k (some (.ni c' fs)))) (a :: b :: .ni c' fs :: r) Q X := Iff.rfl
@[simp] theorem wp_fup2 {c k : Nat} {fs : List (Nat × D)} {d1 : D} {Q : Unit → Sto → Prop} : Wp (fupM c 2 k (fun _ => some d1)) (a :: b :: .ni c fs :: r) Q X ↔ (fgetN c k (some (.ni c fs))).isSome = true ∧ Q () (a :: b :: .ni c (fs.set k (1, d1)) :: r) := wp_fup rfl
@[simp] theorem wp_setfo2 {c k : Nat} {d : D} {fs : List (Nat × D)} {Q : Unit → Sto → Prop} : Wp (setfoM c (.ref 2) k d) (a :: b :: .ni c fs :: r) Q X ↔ k = fs.length ∧ Q () (a :: b :: .ni c (fs ++ [(1, d)]) :: r) := by
  unfold Wp setfoM putFo
  by_cases h : k = fs.length <;> simp [h]
@[simp] theorem wp_fldk2 {Q : KD → Sto → Prop} {c c' f : Nat} {fs : List (Nat × D)} : Wp (fldD c (.ref 2) f) (a :: b :: .nk c' fs :: r) Q X ↔ c' = c ∧ Wp (ofO fs[f]?) (a :: b :: .nk c' fs :: r) (fun v s => Wp (fldVL v) s Q X) X := wp_fldk rfl
@[simp] theorem wp_clsk2 {Q : Nat → Sto → Prop} {c : Nat} {fs : List (Nat × D)} : Wp (clsD (.ref 2)) (a :: b :: .nk c fs :: r) Q X ↔ Q c (a :: b :: .nk c fs :: r) := Iff.rfl
@[simp] theorem wp_cls2 {Q : Nat → Sto → Prop} {c : Nat} {fs : List (Nat × D)} : Wp (clsD (.ref 2)) (a :: b :: .ni c fs :: r) Q X ↔ Q c (a :: b :: .ni c fs :: r) := Iff.rfl
@[simp] theorem wp_fld2 {Q : KD → Sto → Prop} {c c' f : Nat} {fs : List (Nat × D)} : Wp (fldD c (.ref 2) f) (a :: b :: .ni c' fs :: r) Q X ↔ c' = c ∧ Wp (ofO fs[f]?) (a :: b :: .ni c' fs :: r) (fun v s => Wp (fldV v) s Q X) X := by
  show Wp (if c' = c then ofO fs[f]? >>= fldV else no) (a :: b :: .ni c' fs :: r) Q X ↔ _
  by_cases e : c' = c
  · rw [if_pos e, wp_bind]
    exact ⟨fun h => ⟨e, h⟩, fun h => h.2⟩
  · rw [if_neg e]
    exact ⟨fun h => h.elim, fun h => absurd h.1 e⟩
@[simp] theorem wp_fldR2 {Q : KD → Sto → Prop} {c c' f : Nat} {fs : List (Nat × D)} : Wp (fldR c 2 f) (a :: b :: .ni c' fs :: r) Q X ↔ c' = c ∧ Wp (ofO fs[f]?) (a :: b :: .ni c' fs :: r) (fun v s => Wp (fldV v) s Q X) X := wp_fld2
@[simp] theorem wp_setf2 {Q : Unit → Sto → Prop} {c k : Nat} {d : D} {fs : List (Nat × D)} : Wp (setfM c (.ref 2) k d) (a :: b :: .ni c fs :: r) Q X ↔ ∃ fs', putFd k d fs = some fs' ∧ Q () (a :: b :: .ni c fs' :: r) := by
  unfold setfM Wp
  simp
  cases e : putFd k d fs with
  | none => simp
  | some fs' => simp
end
end PV
namespace PV
open PySem L2
section
variable {st : Sto} {X : Nat → D → Sto → Prop} {Q : KD → Sto → Prop} {k k' : Kd}
@[simp] theorem wp_btrepx {i n : Int} : Wp (biD .trepx [(k, .int i), (k', .int n)]) st Q X ↔ (1 ≤ n ∧ n ≤ 1000) ∧ Q (.fz, .tx (List.replicate n.toNat (.int i))) st := by
  show Wp (if 1 ≤ n ∧ n ≤ 1000 then pure (Kd.fz, D.tx (List.replicate n.toNat (.int i))) else no) st Q X ↔ _
  by_cases c : 1 ≤ n ∧ n ≤ 1000
  · rw [if_pos c]
    exact ⟨fun h => ⟨c, h⟩, fun h => h.2⟩
  · rw [if_neg c]
    exact ⟨fun h => h.elim, fun h => absurd h.1 c⟩
end
end PV

/-! part PV91 -/
/-! PV91: comprehensions and generators whose items read the store (which stays as it is). -/
noncomputable section
namespace PV
open PySem L2
section
variable {α : Type} {P : Pr} {elt : E} {tg : Tg} {ifs : List E} {ρ : Env} {st : Sto} {X : Nat → D → Sto → Prop}
theorem wp_lc_filterS {Q : List D → Sto → Prop} {g h : α → D} {c : α → Bool} (xs : List α) (H : ∀ x ∈ xs, ∀ acc, Wp (lcM P elt tg ifs ρ acc (g x)) st (fun r s => r = (if c x then acc ++ [h x] else acc) ∧ s = st) fun _ _ _ => False) (q : Q ((xs.filter c).map h) st) :
    Wp (foldM (fun acc d => calm (lcM P elt tg ifs ρ acc d)) (xs.map g) []) st Q X := by
  have e : ∀ (l : List α) (acc : List D), (∀ x ∈ l, x ∈ xs) → Q (acc ++ (l.filter c).map h) st → Wp (foldM (fun acc d => calm (lcM P elt tg ifs ρ acc d)) (l.map g) acc) st Q X := by
    intro l
    induction l with
    | nil => intro acc _ q; rw [List.map_nil, foldM_nil]; simpa using q
    | cons a l ih =>
      intro acc hl q
      rw [List.map_cons, foldM_cons, wp_bind]
      refine wp_calm ((H a (hl a (by simp)) acc).mono1 fun r s ⟨er, es⟩ => ?_)
      subst er
      subst es
      refine ih _ (fun x hx => hl x (by simp [hx])) ?_
      cases e : c a <;> simpa [e] using q
  exact e xs [] (fun _ h => h) (by simpa using q)
theorem wp_lc_mapS {Q : List D → Sto → Prop} {g h : α → D} (xs : List α) (H : ∀ x ∈ xs, ∀ acc, Wp (lcM P elt tg ifs ρ acc (g x)) st (fun r s => r = acc ++ [h x] ∧ s = st) fun _ _ _ => False) (q : Q (xs.map h) st) :
    Wp (foldM (fun acc d => calm (lcM P elt tg ifs ρ acc d)) (xs.map g) []) st Q X :=
  wp_lc_filterS (c := fun _ => true) xs (fun x hx acc => by simpa using H x hx acc) (by rw [List.filter_eq_self.mpr (by simp)]; exact q)
end
end PV

/-! part PV92 -/
/-! PV92: a, b, c = e, f, g where one is a cell: the values may stay one's own. -/
noncomputable section
namespace PV
open PySem PySem.W PySem.Spec PyProof.Rows L2 LamX NdefX
section
variable {X : Cx} {G : Gx} {P : Pr} {pos : Pos}
end
end PV

/-! part PV93 -/
/-! PV93: min(x, key=lambda), the keys data (tuples of ints, texts, ..). -/
noncomputable section
namespace RT
open PySem PySem.W PySem.Spec PyProof.Rows L2
/-- min with key=: what is held of the best so far is the caller's -/
structure KeyRunB (prog : Program) (w : World) (A : Around) (q : Value) (S : Addr) (wr : List Addr) (G : Array GenState → Array GenState → Prop) (n : Nat) (P : Nat → Value → Prop) (St : Nat → Shared → Prop) (J : Option (Nat × Value) → Shared → Prop) (J2 : Option (Nat × Value) → Nat → Value → Shared → Prop) (bt : Nat → Nat → Bool) : Prop where
  keep : ∀ b s s', J b s → Moved (S :: wr) G s s' → J b s'
  turn : ∀ b i v (s : Shared) (o : Obj) (Q : Value → Shared → Prop) (E : Value → Shared → Prop), i < n → P i v → J b s → St (i + 1) s → s.heap.get? S = some o →
    (∀ k s', J2 b i k s' → St (i + 1) s' → s'.heap.get? S = some o → Q k s') → wpAny (model prog w) A (call q [v]) Q E s
  cmp : ∀ i j ki kj (s : Shared) (Q : Value → Shared → Prop) (E : Value → Shared → Prop), J2 (some (j, kj)) i ki s → Q (.bool (bt i j)) s → wpAny (model prog w) A (richCompare .Lt ki kj) Q E s
  old : ∀ b i k s, J2 b i k s → J b s
  new : ∀ b i k s, J2 b i k s → J (some (i, k)) s
section
variable {prog : Program} {w : World} {A : Around} {R : Result → Shared → Prop} {I : Addr} {fp wr : List Addr} {G : Array GenState → Array GenState → Prop} {n : Nat} {P : Nat → Value → Prop} {St : Nat → Shared → Prop} {J : Option (Nat × Value) → Shared → Prop} {J2 : Option (Nat × Value) → Nat → Value → Shared → Prop} {bt : Nat → Nat → Bool}
variable {q : Addr}
end
end RT
namespace PV
open PySem PySem.W PySem.Spec PyProof.Rows L2 LamX NdefX
section
variable {X : Cx} {G : Gx} {P : Pr} {pos : Pos}
/-- a key that is held -/
def KeyAt (G : Gx) (w : Wd) (H : Hp) (ks : List D) : Option (Nat × Value) → Prop
  | none => True
  | some (i, k) => i < ks.length ∧ ∃ z, RelV z k ∧ FR G w H (ks.getD i .non) z
theorem KeyAt.po {w w' : Wd} {H H' : Hp} {ks : List D} {b : Option (Nat × Value)} (h : KeyAt G w H ks b) (s : Wf G w H) (p : Po w H w' H') : KeyAt G w' H' ks b := by
  cases b with
  | none => trivial
  | some q => exact ⟨h.1, h.2.imp fun z hz => ⟨hz.1, hz.2.po s p⟩⟩
end
end PV

/-! part PV94 -/
/-! PV94: comprehensions with two fors. -/
noncomputable section
namespace PV
open PySem L2 LamX NdefX
/-- the list that a comprehension makes, and its items -/
structure LB (G : Gx) (H1 : Hp) (B : Addr) (l : Nat) (wc : Wd) (Hc : Hp) (acc : List D) (accV : List V) (O : List Addr) : Prop where
  hB : Hc B = some (.lst accV)
  nF : ¬ wc.F B
  nR : B ∉ wc.ρ
  nO : B ∉ wc.O
  hv : VRs G wc Hc l O acc accV
  nd : (B :: O).Nodup
  nw : ∀ a ∈ O, H1 a = none ∧ a ∉ wc.O
section
variable {G : Gx} {H1 Hc : Hp} {B : Addr} {l : Nat} {w1 wc : Wd} {acc : List D} {accV : List V} {O : List Addr}
theorem LB.po {w' : Wd} {H' : Hp} (h : LB G H1 B l wc Hc acc accV O) (s : Wf G wc Hc) (p : Po wc Hc w' H') : LB G H1 B l w' H' acc accV O :=
  ⟨p.keep B _ h.hB h.nR h.nO (fun ps e => by cases e), (fun z => (p.fn B z).elim h.nF fun e => e.no h.hB (fun _ z => by cases z) fun _ z => by cases z), p.out (by rw [h.hB]; simp) h.nR, p.outO (by rw [h.hB]; simp) h.nO, h.hv.po s p (fun a z => (h.nw a z).2), h.nd, fun a z => ⟨(h.nw a z).1, p.outO (h.hv.there a z).1 (h.nw a z).2⟩⟩
theorem LB.push {x : KD} {v : V} {wa w5 : Wd} {Ha H5 : Hp} {st5 : Sto} {Os : List (List Addr)} (c : LB G H1 B l wc Hc acc accV O) (sw : Wf G wc Hc) (pc : Po w1 H1 wc Hc) (hB1 : H1 B = none) (pa : Po wc Hc wa Ha) (p5 : Po wa Ha w5 H5) (s5 : St G w5 H5 st5) (kv : KR G Os w5 H5 Ha x v) (hp : putLB l x = true) :
    isR x.2 = false ∧ ∃ F O', H5 B = some (.lst accV) ∧ Own w5 H5 Ha F ∧ St G (w5.frz F) H5 st5 ∧ Mv (w5.frz F) H5 (upd H5 B (.lst (accV ++ [v]))) B ∧ Po w1 H1 (w5.frz F) (upd H5 B (.lst (accV ++ [v]))) ∧ St G (w5.frz F) (upd H5 B (.lst (accV ++ [v]))) st5 ∧
      LB G H1 B l (w5.frz F) (upd H5 B (.lst (accV ++ [v]))) (acc ++ [x.2]) (accV ++ [v]) O' := by
  obtain ⟨nr, O2, F, own2, hv2, nd2, nw2⟩ := kv.put hp
  have p15 := pa.trans p5
  have pF : Po wc Hc (w5.frz F) H5 := p15.frz fun a z => pa.th a (own2 a z).1
  have sF := s5.frz own2
  have cF := c.po sw pF
  have o2new : ∀ a ∈ O2, Hc a = none := fun a z => pa.th a (nw2 a z).1
  have BO2 : B ∉ O2 := fun z => by have q := o2new B z; rw [c.hB] at q; cases q
  have BO : B ∉ O := (List.nodup_cons.mp c.nd).1
  have mv : Mv (w5.frz F) H5 (upd H5 B (.lst (accV ++ [v]))) B := Mv.of cF.nF cF.nR cF.nO
  refine ⟨nr, F, O ++ O2, cF.hB, own2, sF, mv, (pc.trans pF).mv hB1 cF.hB, sF.mv cF.hB mv, upd_same, cF.nF, cF.nR, cF.nO, ?_, ?_, ?_⟩
  · exact VRs.mv mv (VRs.snoc nr hv2 cF.hv) fun z => (List.mem_append.mp z).elim BO BO2
  · rw [List.nodup_cons]
    refine ⟨fun z => (List.mem_append.mp z).elim BO BO2, List.nodup_append.mpr ⟨(List.nodup_cons.mp c.nd).2, nd2, fun a z b z' e => ?_⟩⟩
    subst e
    exact (c.hv.there a z).1 (o2new a z')
  · intro a z
    rcases List.mem_append.mp z with z | z
    · exact cF.nw a z
    · exact ⟨pc.th a (o2new a z), (nw2 a z).2⟩
theorem Gd.wr {σ : L2.St} {ρ : Env} {Os : List (List Addr)} {st st5 : Sto} {wb w5 : Wd} {Hb H5 : Hp} {o : HO} (g : Gd G wb Hb σ ρ Os st) (p : Po wb Hb w5 H5) (s : St G w5 H5 st5) (s2 : St G w5 (upd H5 B o) st5) (mv : Mv w5 H5 (upd H5 B o) B) (n : B ∉ Os.flatten) : Gd G w5 (upd H5 B o) σ ρ Os st5 := by
  have gw := g.po p s
  exact ⟨s2, gw.sl.mv mv n, gw.nd, gw.ap⟩
end
def lcM1 (P : Pr) (elt : E) (tg1 : Tg) (ifs1 : List E) (ρ1 : Env) (acc : List D) (d : D) : M (List D) := do
  let ρ2 ← PV.ofO (bindT tg1 d (wipeE ρ1 (tgV tg1)))
  let t ← evT P ifs1 ρ2
  if t then do
    let y ← evE P elt ρ2
    let y ← putL (lvE elt) y
    if szOk (acc.length + 1) then pure (acc ++ [y]) else no
  else pure acc
def lcM2 (P : Pr) (elt : E) (tg : Tg) (ifs : List E) (tg1 : Tg) (ik1 : Ik) (src1 ifs1 : List E) (ρ : Env) (acc : List D) (d : D) : M (List D) := do
  let ρ1 ← PV.ofO (bindT tg d (wipeE ρ (tgV tg ++ tgV tg1)))
  let t ← evT P ifs ρ1
  if t then do
    let xs1 ← evEs P src1 ρ1
    let ds1 ← if forB xs1 then itD ik1 xs1 else no
    foldM (lcM1 P elt tg1 ifs1 ρ1) ds1 acc
  else pure acc
theorem evE_lc2 {P : Pr} {elt : E} {tg : Tg} {ik : Ik} {src ifs : List E} {tg1 : Tg} {ik1 : Ik} {src1 ifs1 : List E} {ρ : Env} : evE P (.lc2 elt tg ik src ifs tg1 ik1 src1 ifs1) ρ = evI P ik src ρ >>= fun ds => foldM (fun acc d => calm (lcM2 P elt tg ifs tg1 ik1 src1 ifs1 ρ acc d)) ds [] >>= fun ys => pure (.fr (lvE elt + 1), .lst ys) := by
  rw [evE]
  unfold evI
  rw [M.assoc]
  rfl
section
variable {X : Cx} {G : Gx} {P : Pr} {pos : Pos}
end
end PV

/-! part PV95 -/
/-! PV95: sum(d.values()), dict(d.items()); a text, a range with a step are walked. -/
noncomputable section
namespace PV
open PySem PySem.W PySem.Spec PyProof.Rows L2 LamX NdefX RT
section
variable {G : Gx} {w : Wd} {H : Hp}
end
section
variable {X : Cx} {G : Gx} {P : Pr} {pos : Pos} {e : Expr} {te : TE} {p apos cpos : Pos}
end
end PV

/-! part PV96 -/
/-! PV96: Wp lemmas of min(x, key=) with data keys, of comprehensions with two fors. -/
noncomputable section
namespace PV
open PySem PySem.W PySem.Spec PyProof.Rows L2 LamX NdefX
section
variable {P : Pr} {ρ : Env} {st : Sto} {X : Nat → D → Sto → Prop} {Q : KD → Sto → Prop} {α : Type}
variable {elt : E} {tg tg1 : Tg} {ik ik1 : Ik} {src ifs src1 ifs1 : List E}
@[simp] theorem wp_lc2 : Wp (evE P (.lc2 elt tg ik src ifs tg1 ik1 src1 ifs1) ρ) st Q X ↔ Wp (evEs P src ρ) st (fun xs s => Wp (itD ik xs) s (fun ds s => Wp (foldM (fun acc d => calm (lcM2 P elt tg ifs tg1 ik1 src1 ifs1 ρ acc d)) ds []) s (fun ys s => Q (.fr (lvE elt + 1), .lst ys) s) X) X) X := by
  rw [evE_lc2]
  unfold evI
  simp only [wp_bind, wp_pure]
end
end PV

/-! part PV97 -/
/-! PV97: min of four ints. -/
noncomputable section
namespace RT
open PySem PySem.W PySem.Spec PyProof.Rows L2
section
variable {prog : Program} {w : World} {A : Around} {E : Value → Shared → Prop} {s : Shared}
end
section
variable {X : Cx}
end
end RT
namespace PV
open PySem PySem.W PySem.Spec PyProof.Rows L2 LamX NdefX
section
variable {X : Cx} {G : Gx} {P : Pr} {pos : Pos}
end
end PV

/-! part PV98 -/
/-! PV98: e is not True. -/
noncomputable section
namespace PV
open PySem PySem.W PySem.Spec PyProof.Rows L2 LamX NdefX
section
variable {X : Cx} {G : Gx} {P : Pr} {pos : Pos}
end
end PV

/-! part PV99 -/
/-! PV99: str(i); != of (x, a dict); min(d, key=) of a locked dict. -/
noncomputable section
namespace RT
open PySem PySem.W PySem.Spec PyProof.Rows L2
section
variable {prog : Program} {w : World}
open PySem.SeqAt in
open AutoSeq1 (wpAny_loadPart') in
open MeetsSeq MeetsSeq2 MeetsSeq3 SeqRoads2 in
variable {X : Cx}
/-- (x, d) != (y, e), alike -/
def rNeT (K : PySem.W.Frag) : R2 := fun x y H Q => ∃ a b u p q ks ls, x = .ref a ∧ y = .ref b ∧ SqT K H a [u, .ref p] ∧ SqT K H b [u, .ref q] ∧ flatB u = true ∧ Rd H p (.dK ks) ∧ Rd H q (.dK ls) ∧ ks.length = ls.length ∧ (∀ z ∈ ks, valV ls z.1 = some z.2 ∧ flatB z.2 = true) ∧ Q (.bl false) H
end
end RT
namespace L2
open PySem PySem.W PySem.Spec PyProof.Rows
section
variable {prog : Program} {w : World} {A : Around}
def WalkD (N d : Addr) (ob : Obj) (n ep : Nat) (i : Nat) (s : Shared) : Prop := s.heap.IsKeyIter N d i n ep ∧ s.heap.get? d = some ob
end
end L2
namespace PV
open PySem PySem.W PySem.Spec PyProof.Rows L2 LamX NdefX
section
variable {X : Cx} {G : Gx} {P : Pr} {pos q : Pos} {p : Expr} {ps : List Expr} {es : List E}
end
section
variable {P : Pr} {ρ : Env} {st : Sto} {X : Nat → D → Sto → Prop} {Q : KD → Sto → Prop} {k : Kd}
@[simp] theorem wp_strZ {z : Str} : Wp (biD .str [(k, .str z)]) st Q X ↔ Q (.fz, .str z) st := Iff.rfl
@[simp] theorem wp_strI {i : Int} : Wp (biD .str [(k, .int i)]) st Q X ↔ i.natAbs.log2 < 1920 ∧ Q (.fz, .str (toString i)) st := by
  show Wp (if i.natAbs.log2 < 1920 then pure (Kd.fz, D.str (toString i)) else no) st Q X ↔ _
  exact wp_ifno
end
end PV

/-! part PV100 -/
/-! PV100: dicts whose keys are tuples: in, not in, get, d[k], {}, d[k] = v. -/
noncomputable section
namespace PV
open PySem PySem.W PySem.Spec PyProof.Rows L2 LamX NdefX
section
variable {G : Gx} {w : Wd} {H H0 : Hp} {Os : List (List Addr)}
/-- a tuple of plain keys, its object the run's -/
theorem KR.keyT (hk : G.kt = false) {x : KD} {v : V} {ds : List D} {ks : List Ky} (h : KR G Os w H H0 x v) (e : x.2 = .tup ds) (ek : keysO ds = some ks) : ∃ b, v = .ref b ∧ H b = some (.tup (ks.map kV)) := by
  have q := h.nc (by rw [e]; rfl)
  rw [e] at q
  cases q with
  | tup ha hs =>
    obtain ⟨_, hb⟩ := ha.key hk
    rw [hs.keys ek] at hb
    exact ⟨_, rfl, hb⟩
def hasT (x y : KD) : Option Bool := match y.2 with
  | .dit kvs => (ditGet kvs x.2).map (·.isSome)
  | _ => none
theorem ditGet_some {kvs : List (List Ky × D)} {d : D} {o : Option D} (e : ditGet kvs d = some o) : ∃ ds ks, d = .tup ds ∧ keysO ds = some ks ∧ o = getK ks kvs := by
  unfold ditGet at e
  split at e
  · rename_i ds
    cases e1 : keysO ds with
    | none => rw [e1] at e; cases e
    | some ks =>
      rw [e1] at e
      cases e
      exact ⟨ds, ks, rfl, e1, rfl⟩
  · cases e
theorem KR.hasT (hk : G.kt = false) {x y : KD} {v u : V} {c : Bool} (kx : KR G Os w H H0 x v) (ky : KR G Os w H H0 y u) (e : PV.hasT x y = some c) : ∃ a o, u = .ref a ∧ DGet H a v o ∧ o.isSome = c := by
  unfold PV.hasT at e
  split at e
  · rename_i kvs ed
    obtain ⟨o, e1, rfl⟩ := Option.map_eq_some_iff.mp e
    obtain ⟨ds, ks, e2, e3, rfl⟩ := ditGet_some e1
    obtain ⟨b, rfl, hb⟩ := kx.keyT hk e2 e3
    obtain ⟨ky1, ky2⟩ := y
    cases ed
    obtain ⟨a, vs, rfl, hr, hl⟩ := ky.ditH
    exact ⟨a, valV (zK kvs vs) ks, rfl, .inr ⟨_, ks, b, hr, rfl, hb, rfl⟩, getK_isSome hl.symm⟩
  · cases e
end
section
variable {X : Cx} {G : Gx} {P : Pr} {pos : Pos}
/-- raises nothing -/
def NoX {α : Type} (m : M α) : Prop := ∀ s c p s', m s ≠ .ex c p s'
theorem NoX.pure {α : Type} {a : α} : NoX (pure a : M α) := fun _ _ _ _ h => nomatch h
theorem NoX.no {α : Type} : NoX (no : M α) := fun _ _ _ _ h => nomatch h
theorem NoX.ofO {α : Type} {o : Option α} : NoX (ofO o) := by
  cases o
  · exact NoX.no
  · exact NoX.pure
theorem NoX.bind {α β : Type} {m : M α} {f : α → M β} (h : NoX m) (hf : ∀ a, NoX (f a)) : NoX (m >>= f) := fun s c p s' e => by
  rw [M.run_bind] at e
  cases em : m s with
  | ok a s1 => rw [em] at e; exact hf a s1 c p s' e
  | ex c1 p1 s1 => exact h s c1 p1 s1 em
  | no => rw [em] at e; cases e
/-- a name or a constant -/
def qE1 : PV.E → Bool
  | .var _ => true
  | .lit _ => true
  | _ => false
def qE : PV.E → Bool
  | .tup es => es.all qE1
  | e => qE1 e
end
/-! the pairs kept -/
section
variable {κ β γ : Type} [DecidableEq κ]
def putH (l : List (κ × β)) (k : κ) (b : β) : List (κ × β) := if l.any fun kv => decide (kv.1 = k) then l.map fun kv => if kv.1 = k then (kv.1, b) else kv else l ++ [(k, b)]
def mergeH (l ps : List (κ × β)) : List (κ × β) := ps.foldl (fun acc p => putH acc p.1 p.2) l
end
section
variable {G : Gx} {w : Wd} {H : Hp}
end
section
variable {X : Cx} {G : Gx} {P : Pr} {pos : Pos}
end
end PV
namespace RT
open PySem PySem.Spec PyProof.Rows L2
section
variable {X : Cx}
/-- at p stands a pair: a tuple of plain keys, the run's, and a value -/
def IsPairV (K : PySem.W.Frag) (H : Hp) (p : Addr) (kv : List Key × V) : Prop := ∃ b, SqT K H p [.ref b, kv.2] ∧ H b = some (.tup (kv.1.map kV))
/-- a tuple, a text: == -/
def rEqTS (K : PySem.W.Frag) : R2 := fun x y H Q => ∃ a vs z, x = .ref a ∧ SqT K H a vs ∧ y = .str z ∧ Q (.bl false) H
end
end RT
namespace PV
open PySem PySem.W PySem.Spec PyProof.Rows L2 LamX NdefX
section
variable {G : Gx} {w : Wd} {H : Hp}
end
section
variable {X : Cx} {G : Gx} {P : Pr} {pos : Pos} {p : Expr} {ps : List Expr} {es : List PV.E} {q : Pos}
end
end PV

/-! part PV101 -/
/-! PV101: a walk over the keys of a dict whose keys are tuples. -/
noncomputable section
namespace PV
open PySem PySem.W PySem.Spec PyProof.Rows L2 LamX NdefX
section
variable {G : Gx} {w : Wd} {H : Hp}
theorem tabsN_lkT {T : List NTab} {D : Addr} {kvs : List (List Key × V)} {ob : Obj} (hD : H D = some (.dT kvs)) (t : TabsN T H) : TabsN T (upd H D (.frz ob (.dT kvs))) := fun p hp => by
  obtain ⟨ps, h1, h2, h3⟩ := t p hp
  refine ⟨ps, by rw [upd_ne (fun z => by rw [z, hD] at h1; cases h1)]; exact h1, h2, fun pos cv hc => ?_⟩
  obtain ⟨c, e1, e2⟩ := h3 pos cv hc
  exact ⟨c, e1, by rw [upd_ne (fun z => by rw [z, hD] at e2; cases e2)]; exact e2⟩
theorem lock_poT {a : Addr} {kvs : List (List Key × V)} (hf : w.F a) (hT : ∀ b L, w.T b = some L → b ≠ a) (ha : H a = some (.dT kvs)) (ob : Obj) : Po w H w (upd H a (.frz ob (.dT kvs))) := by
  refine ⟨fun _ z => z, fun _ z => .inl z, ⟨[], by simp, by simp⟩, fun _ z => .inl z, fun b o e nf _ _ _ => ?_, fun b o e _ _ _ _ => ?_, fun b z => ?_, fun b L z => ?_, fun b n => NT.updP (fun _ z => by cases z) (fun _ z => by cases z) n⟩
  · rw [upd_ne (lk_ne nf hf)]; exact e
  · by_cases c : b = a
    · subst c
      rw [ha] at e
      cases e
      exact .inr ⟨ob, upd_same⟩
    · rw [upd_ne c]; exact Kp.eq e
  · by_cases c : b = a
    · subst c; rw [upd_same] at z; cases z
    · rw [upd_ne c] at z; exact z
  · have hh : ∀ b o, H b = some o → Kp o (upd H a (.frz ob (.dT kvs)) b) := fun b o e => by
      by_cases c : b = a
      · subst c
        rw [ha] at e
        cases e
        exact .inr ⟨ob, upd_same⟩
      · rw [upd_ne c]; exact Kp.eq e
    exact ⟨z, fun o e _ => by rw [upd_ne (hT b L z)]; exact e, fun c _ o e _ => hh c o e⟩
theorem lock_someT {a b : Addr} {kvs : List (List Key × V)} {ob : Obj} (h : ∃ o, H b = some o ∧ ∀ ps, o ≠ .tbl ps) : ∃ o, upd H a (.frz ob (.dT kvs)) b = some o ∧ ∀ ps, o ≠ .tbl ps := by
  by_cases c : b = a
  · subst c
    exact ⟨_, upd_same, fun ps e => by cases e⟩
  · rw [upd_ne c]; exact h
mutual
theorem VR.lockT {a : Addr} {ks : List (List Key × V)} (wf : Wf G w H) (hf : w.F a) (hT : ∀ b L, w.T b = some L → b ≠ a) (ha : H a = some (.dT ks)) (ob : Obj) : ∀ {l : Nat} {O : List Addr} {d : D} {v : V}, VR G w H l O d v → VR G w (upd H a (.frz ob (.dT ks))) l O d v
  | _, _, _, _, .zero h => .zero (h.po wf (lock_poT hf hT ha ob))
  | _, _, _, _, .nc hc h => .nc hc (h.po wf (lock_poT hf hT ha ob))
  | _, _, _, _, .lst h h1 h2 hs => .lst (by rw [upd_ne (lk_ne h1 hf)]; exact h) h1 h2 (VRs.lockT wf hf hT ha ob hs)
  | _, _, _, _, .dic h h1 h2 hs => .dic (by rw [upd_ne (lk_ne h1 hf)]; exact h) h1 h2 (VRs.lockT wf hf hT ha ob hs)
  | _, _, _, _, .dit h h1 h2 hs => .dit (by rw [upd_ne (lk_ne h1 hf)]; exact h) h1 h2 (VRs.lockT wf hf hT ha ob hs)
theorem VRs.lockT {a : Addr} {ks : List (List Key × V)} (wf : Wf G w H) (hf : w.F a) (hT : ∀ b L, w.T b = some L → b ≠ a) (ha : H a = some (.dT ks)) (ob : Obj) : ∀ {l : Nat} {O : List Addr} {ds : List D} {vs : List V}, VRs G w H l O ds vs → VRs G w (upd H a (.frz ob (.dT ks))) l O ds vs
  | _, _, _, _, .nil => .nil
  | _, _, _, _, .cons n h hs => .cons n (VR.lockT wf hf hT ha ob h) (VRs.lockT wf hf hT ha ob hs)
end
theorem FDs.lockT {a : Addr} {ks : List (List Key × V)} (wf : Wf G w H) (hf : w.F a) (hT : ∀ b L, w.T b = some L → b ≠ a) (ha : H a = some (.dT ks)) (ob : Obj) : ∀ {xs : List (Nat × D)} {vs : List V} {O : List Addr}, FDs G w H xs vs O → FDs G w (upd H a (.frz ob (.dT ks))) xs vs O
  | _, _, _, .nil => .nil
  | _, _, _, .cons n h hs => .cons n (h.lockT wf hf hT ha ob) (FDs.lockT wf hf hT ha ob hs)
theorem NRs.lockT {a : Addr} {ks : List (List Key × V)} (wf : Wf G w H) (hf : w.F a) (hT : ∀ b L, w.T b = some L → b ≠ a) (ha : H a = some (.dT ks)) (ob : Obj) : ∀ {st : Sto} {as O : List Addr}, NRs G w H st as O → (∀ b ∈ as, b ∈ w.ρ) → NRs G w (upd H a (.frz ob (.dT ks))) st as O
  | _, _, _, .nil, _ => .nil
  | _, _, _, .cons (.nl h hs) r, hb => .cons (.nl (by rw [upd_ne (lk_ne2 (Pr := fun b => b ∈ w.ρ) (hb _ (by simp)) (wf.fr a hf).1)]; exact h) (hs.po wf (lock_poT hf hT ha ob))) (NRs.lockT wf hf hT ha ob r fun b z => hb b (by simp [z]))
  | _, _, _, .cons (.ni h hc hl hs) r, hb => .cons (.ni (by rw [upd_ne (lk_ne2 (Pr := fun b => b ∈ w.ρ) (hb _ (by simp)) (wf.fr a hf).1)]; exact h) hc hl (hs.lockT wf hf hT ha ob)) (NRs.lockT wf hf hT ha ob r fun b z => hb b (by simp [z]))
  | _, _, _, .cons (.nk t h hc hl hs hz) r, hb => .cons (.nk t (by rw [upd_ne (lk_ne2 (Pr := fun b => b ∈ w.ρ) (hb _ (by simp)) (wf.fr a hf).1)]; exact h) hc hl (by rw [unf_upd, show unfO (.frz ob (.dT ks)) = .dT ks from rfl, upd_id (H := PV.unf H) (o := .dT ks) (unf_some ha)]; exact hs) fun b hb => let ⟨o, e, n⟩ := hz b hb; ⟨o, by rw [upd_ne (fun z => by rw [z, ha] at e; exact n.2.1 _ (Option.some.inj e).symm)]; exact e, n⟩) (NRs.lockT wf hf hT ha ob r fun b z => hb b (by simp [z]))
  | _, _, _, .cons (.nd t h hs) r, hb => .cons (.nd t (by rw [upd_ne (lk_ne2 (Pr := fun b => b ∈ w.ρ) (hb _ (by simp)) (wf.fr a hf).1)]; exact h) (hs.po wf (lock_poT hf hT ha ob))) (NRs.lockT wf hf hT ha ob r fun b z => hb b (by simp [z]))
theorem St.lockT {a : Addr} {ks : List (List Key × V)} {st : Sto} (s : St G w H st) (hf : w.F a) (ha : H a = some (.dT ks)) (ob : Obj) : St G w (upd H a (.frz ob (.dT ks))) st :=
  ⟨⟨fun b z => lock_someT (s.wf.fa b z), s.wf.fr, s.wf.nd, fun b z => ⟨lock_someT (s.wf.ra b z).1, (s.wf.ra b z).2⟩, fun b z => lock_someT (s.wf.oa b z), tabsN_lkT ha s.wf.tb⟩, s.nr.lockT s.wf hf (s.lT hf) ha ob fun _ z => z, s.nd, s.lk⟩
/-! the places of the store and what it owns are no tuples -/
theorem NRs.places : ∀ {st : Sto} {as O : List Addr}, NRs G w H st as O → (∀ a ∈ as, ∃ u, H a = some u ∧ ∀ vs, u ≠ .tup vs) ∧ ∀ b ∈ O, ∃ u, H b = some u ∧ ∀ vs, u ≠ .tup vs
  | _, _, _, .nil => ⟨by simp, by simp⟩
  | _, _, _, .cons h r => by
    obtain ⟨r1, r2⟩ := NRs.places r
    have dk : ∀ {H' : Hp} {b : Addr}, (∃ u, H' b = some u ∧ ((∃ xs, u = .lst xs) ∨ isDk u)) → ∃ u, H' b = some u ∧ ∀ vs, u ≠ .tup vs := fun ⟨u, e, k⟩ => ⟨u, e, fun vs z => by
      subst z
      rcases k with ⟨_, k⟩ | ⟨_, k⟩ | ⟨_, k⟩ <;> cases k⟩
    cases h with
    | nl h hs =>
      refine ⟨fun a z => (List.mem_cons.mp z).elim (fun e => by rw [e]; exact ⟨_, h, fun vs e => by cases e⟩) (r1 a), fun b z => ?_⟩
      simp only [List.nil_append] at z
      exact r2 b z
    | ni h hc hl hs => exact ⟨fun a z => (List.mem_cons.mp z).elim (fun e => by rw [e]; exact ⟨_, h, fun vs e => by cases e⟩) (r1 a), fun b z => (List.mem_append.mp z).elim (fun z => dk (hs.kinds b z)) (r2 b)⟩
    | nk t h hc hl hs hz =>
      refine ⟨fun a z => (List.mem_cons.mp z).elim (fun e => by rw [e]; exact ⟨_, h, fun vs e => by cases e⟩) (r1 a), fun b z => (List.mem_append.mp z).elim (fun z => ?_) (r2 b)⟩
      obtain ⟨u, e, n⟩ := dk (hs.kinds b z)
      cases eb : H b with
      | none => unfold unf at e; rw [eb] at e; cases e
      | some o =>
        refine ⟨o, rfl, fun vs z => ?_⟩
        subst z
        unfold unf at e
        rw [eb] at e
        cases e
        exact n vs rfl
    | nd t h hs =>
      refine ⟨fun a z => (List.mem_cons.mp z).elim (fun e => by rw [e]; exact ⟨_, h, fun vs e => by cases e⟩) (r1 a), fun b z => ?_⟩
      simp only [List.nil_append] at z
      exact r2 b z
end
section
variable {X : Cx} {G : Gx} {P : Pr} {pos apos cpos : Pos} {tg : Expr}
end
end PV

/-! part PV102 -/
/-! PV102: x[k][l] = e, x's list of lists one's own. -/
noncomputable section
namespace PV
open PySem PySem.W PySem.Spec PyProof.Rows L2 LamX NdefX
section
variable {G : Gx} {w : Wd} {H : Hp}
theorem VRs.own : ∀ {l : Nat} {ds : List D} {vs : List V} {O : List Addr} {k : Nat} {d : D}, VRs G w H l O ds vs → ds[k]? = some d → ∃ v Oj, vs[k]? = some v ∧ VR G w H l Oj d v ∧ (∀ c ∈ Oj, c ∈ O) ∧
    ∀ {H' : Hp} {d1 : D}, (∀ a, w.F a → H' a = H a) → O.Nodup → (∀ c ∈ O, c ∉ Oj → H' c = H c) → isR d1 = false → VR G w H' l Oj d1 v → VRs G w H' l O (ds.set k d1) vs
  | _, _, _, _, _, _, .nil, e => by simp at e
  | _, _, _, _, 0, _, .cons (O := O1) (O' := O2) n h hs, e => by
    simp at e
    subst e
    exact ⟨_, O1, rfl, h, fun c hc => List.mem_append_left _ hc, fun eF nd eO nr new => .cons nr new (VRs.tw (T' := w.T) eF hs fun c hc => eO c (List.mem_append_right _ hc) fun z => (List.nodup_append.mp nd).2.2 _ z _ hc rfl)⟩
  | _, _, _, _, k + 1, _, .cons (O := O1) (O' := O2) n h hs, e => by
    obtain ⟨v, Oj, e1, h1, sub, q⟩ := VRs.own hs (by simpa using e)
    exact ⟨v, Oj, by simpa using e1, h1, fun c hc => List.mem_append_right _ (sub c hc), fun eF nd eO nr new => .cons n (VR.tw (T' := w.T) eF h fun c hc => eO c (List.mem_append_left _ hc) fun z => (List.nodup_append.mp nd).2.2 _ hc _ (sub c z) rfl) (q eF (List.nodup_append.mp nd).2.1 (fun c hc z => eO c (List.mem_append_right _ hc) z) nr new)⟩
end
section
variable {X : Cx} {G : Gx} {P : Pr} {pos : Pos}
end
end PV

/-! part PV103 -/
/-! PV103: what the terms of PV100..PV102 do. -/
noncomputable section
namespace PV
open PySem L2
variable {P : Pr} {ρ : Env} {st : Sto} {X : Nat → D → Sto → Prop} {k k' : Kd}
@[simp] theorem wp_inT2 {a b : Int} {kvs : List (List Ky × D)} {Q : KD → Sto → Prop} : Wp (biD .inT [(k, .tup [.int a, .int b]), (k', .dit kvs)]) st Q X ↔ Q (.fz, .bl (getK [.inl a, .inl b] kvs).isSome) st := Iff.rfl
@[simp] theorem wp_ninT2 {a b : Int} {kvs : List (List Ky × D)} {Q : KD → Sto → Prop} : Wp (biD .ninT [(k, .tup [.int a, .int b]), (k', .dit kvs)]) st Q X ↔ Q (.fz, .bl (!(getK [.inl a, .inl b] kvs).isSome)) st := Iff.rfl
@[simp] theorem wp_getT2 {a b : Int} {kvs : List (List Ky × D)} {z : KD} {Q : KD → Sto → Prop} : Wp (biD .getT [(k, .dit kvs), (k', .tup [.int a, .int b]), z]) st Q X ↔ Q (match getK [.inl a, .inl b] kvs with | some d => itemK k d | none => z) st := by
  show Wp (getTD (k, .dit kvs) (k', .tup [.int a, .int b]) z) st Q X ↔ _
  unfold getTD
  dsimp only
  show Wp (ofO (some (getK [.inl a, .inl b] kvs)) >>= _) st Q X ↔ _
  cases getK [.inl a, .inl b] kvs <;> exact Iff.rfl
@[simp] theorem wp_idxT2 {a b : Int} {kvs : List (List Ky × D)} {Q : KD → Sto → Prop} : Wp (biD .idxT [(k, .dit kvs), (k', .tup [.int a, .int b])]) st Q X ↔ ∃ d, getK [.inl a, .inl b] kvs = some d ∧ Q (itemK k d) st := by
  show Wp (ofO ((some (getK [.inl a, .inl b] kvs) |>.bind id).map fun d => itemK k d)) st Q X ↔ _
  cases getK [.inl a, .inl b] kvs with
  | none => exact ⟨fun h => h.elim, fun ⟨d, e, _⟩ => nomatch e⟩
  | some d => exact ⟨fun h => ⟨d, rfl, h⟩, fun ⟨d', e, h⟩ => by cases e; exact h⟩
@[simp] theorem wp_dnewT {Q : KD → Sto → Prop} : Wp (biD .dnewT []) st Q X ↔ Q (.fr 1, .dit []) st := Iff.rfl
@[simp] theorem wp_lenT {kvs : List (List Ky × D)} {Q : KD → Sto → Prop} : Wp (biD .len [(k, .dit kvs)]) st Q X ↔ Q (.fz, .int kvs.length) st := Iff.rfl
@[simp] theorem wp_itKST {kvs : List (List Ky × D)} {Q : List D → Sto → Prop} : Wp (itD .kst [(k, .dit kvs)]) st Q X ↔ walkB k = true ∧ Q (kvs.map fun p => .tup (p.1.map keyD)) st := wp_ifno
@[simp] theorem wp_dputT {Q : Fl × Env → Sto → Prop} {i : Nat} {k e : E} : Wp (evS P (.dputT i k e) ρ) st Q X ↔ Wp (evE P e ρ) st (fun y s => Wp (slotD ρ i) s (fun x s => Wp (ofO (ownT x)) s (fun kvs s => Wp (evE P k ρ) s (fun z s => Wp (ofO (keyTO z.2)) s (fun kk s => putB y = true ∧ szOk (kvs.length + 1) = true ∧ Q (.nx, ρ.set i (some (1, .dit (setK kvs kk y.2)))) s) X) X) X) X) X := by
  rw [evS]
  simp only [wp_bind, PV.put, wp_ifno, wp_pure]
@[simp] theorem wp_lput2 {Q : Fl × Env → Sto → Prop} {i : Nat} {k l e : E} : Wp (evS P (.lput2 i k l e) ρ) st Q X ↔ Wp (evE P e ρ) st (fun y s => Wp (slotD ρ i) s (fun x s => Wp (ofO (ownL2 x)) s (fun ds s => Wp (evE P k ρ) s (fun z s => Wp (ofO (intO z.2)) s (fun n s => Wp (ofO (L2.ixN ds.length n)) s (fun m s => Wp (ofO ds[m]?) s (fun d0 s => Wp (ofO (lstO d0)) s (fun es s => Wp (evE P l ρ) s (fun u s => Wp (ofO (intO u.2)) s (fun n2 s => Wp (ofO (L2.ixN es.length n2)) s (fun m2 s => Wp (PV.put y) s (fun d s => Q (.nx, ρ.set i (some (2, .lst (ds.set m (.lst (es.set m2 d)))))) s) X) X) X) X) X) X) X) X) X) X) X) X := by
  rw [evS]
  simp only [wp_bind, wp_pure]
end PV

/-! part PV104 -/
/-! PV104: a < b of data (tuples). -/
namespace RT
open PySem PySem.Spec PyProof.Rows L2 PySem.W
section
variable {X : Cx}
def rLtDat (K : PySem.W.Frag) : R2 := fun x y H Q => ∃ p q, Dp K H x p ∧ Dp K H y q ∧ AlikeAll [p, q] ∧ PyData.depthAll [p, q] ≤ 16 ∧ Q (.bl (PySem.W.dataLt p q)) H
/-- a dict's store, among other targets -/
def rSetDK : TSet := fun o i v H Q => ∃ a H', o = .ref a ∧ DPut H a i v H' ∧ Q H'
end
end RT
namespace PV
open PySem PySem.W PySem.Spec PyProof.Rows L2 LamX NdefX
section
variable {X : Cx} {G : Gx} {P : Pr} {pos : Pos}
end
end PV

/-! part PV105 -/
/-! PV105: a dict of a name's own is lent for an expression: it stands in the store meanwhile. -/
noncomputable section
namespace PV
open PySem PySem.W PySem.Spec PyProof.Rows L2 LamX NdefX
section
variable {G : Gx} {w w2 : Wd} {H H' H2 : Hp} {a : Addr} {st st2 : Sto}
/-- the world with a in the store, lent -/
def Wd.wv (w : Wd) (a : Addr) : Wd := { w with ρ := w.ρ ++ [a], T := fun r => if r = a then some [] else w.T r }
mutual
theorem FR.wv (e : ∀ b, w.F b → H' b = H b) : ∀ {d : D} {v : V}, FR G w H d v → FR G (w.wv a) H' d v
  | _, _, .non => .non
  | _, _, .bl b => .bl b
  | _, _, .int i => .int i
  | _, _, .str x => .str x
  | _, _, .tup h hs => .tup (h.elim (fun h => .inl ⟨h.1, by have q := h.2; unfold Rt at q ⊢; rw [e _ h.1]; exact q⟩) .inr) (FRs.wv e hs)
  | _, _, .lst h hs => .lst ⟨h.1, by rw [e _ h.1]; exact h.2⟩ (FRs.wv e hs)
  | _, _, .ins hf h hc hl hs => .ins hf (by rw [e _ hf]; exact h) hc hl (FRs.wv e hs)
  | _, _, .ref h => .ref (by
      show (w.ρ ++ [a])[_]? = _
      rw [List.getElem?_append_left (List.getElem?_eq_some_iff.mp h).1]; exact h)
  | _, _, .tx hf hd h hs => .tx hf hd (by rw [e _ hf]; exact h) (FRs.wv e hs)
  | _, _, .dic hf h hs => .dic hf (by unfold Rd at h ⊢; rw [e _ hf]; exact h) (FRs.wv e hs)
  | _, _, .dit hf h hs => .dit hf (by unfold Rd at h ⊢; rw [e _ hf]; exact h) (FRs.wv e hs)
theorem FRs.wv (e : ∀ b, w.F b → H' b = H b) : ∀ {ds : List D} {vs : List V}, FRs G w H ds vs → FRs G (w.wv a) H' ds vs
  | _, _, .nil => .nil
  | _, _, .cons n h hs => .cons n (FR.wv e h) (FRs.wv e hs)
end
mutual
theorem VR.wv (e : ∀ b, w.F b → H' b = H b) : ∀ {l : Nat} {O : List Addr} {d : D} {v : V}, VR G w H l O d v → (∀ b ∈ O, H' b = H b ∧ b ≠ a) → VR G (w.wv a) H' l O d v
  | _, _, _, _, .zero h, _ => .zero (h.wv e)
  | _, _, _, _, .nc hc h, _ => .nc hc (h.wv e)
  | _, _, _, _, .lst h hf hn hs, hO => .lst (by rw [(hO _ (by simp)).1]; exact h) hf (fun z => (List.mem_append.mp z).elim hn fun z => (hO _ List.mem_cons_self).2 (List.mem_singleton.mp z)) (VRs.wv e hs fun b hb => hO b (by simp [hb]))
  | _, _, _, _, .dic h hf hn hs, hO => .dic (by rw [(hO _ (by simp)).1]; exact h) hf (fun z => (List.mem_append.mp z).elim hn fun z => (hO _ List.mem_cons_self).2 (List.mem_singleton.mp z)) (VRs.wv e hs fun b hb => hO b (by simp [hb]))
  | _, _, _, _, .dit h hf hn hs, hO => .dit (by rw [(hO _ (by simp)).1]; exact h) hf (fun z => (List.mem_append.mp z).elim hn fun z => (hO _ List.mem_cons_self).2 (List.mem_singleton.mp z)) (VRs.wv e hs fun b hb => hO b (by simp [hb]))
theorem VRs.wv (e : ∀ b, w.F b → H' b = H b) : ∀ {l : Nat} {O : List Addr} {ds : List D} {vs : List V}, VRs G w H l O ds vs → (∀ b ∈ O, H' b = H b ∧ b ≠ a) → VRs G (w.wv a) H' l O ds vs
  | _, _, _, _, .nil, _ => .nil
  | _, _, _, _, .cons n h hs, hO => .cons n (VR.wv e h fun b hb => hO b (by simp [hb])) (VRs.wv e hs fun b hb => hO b (by simp [hb]))
end
theorem FDs.wv (e : ∀ b, w.F b → H' b = H b) : ∀ {xs : List (Nat × D)} {vs : List V} {O : List Addr}, FDs G w H xs vs O → (∀ b ∈ O, H' b = H b ∧ b ≠ a) → FDs G (w.wv a) H' xs vs O
  | _, _, _, .nil, _ => .nil
  | _, _, _, .cons n h hs, hO => .cons n (h.wv e fun b hb => hO b (by simp [hb])) (FDs.wv e hs fun b hb => hO b (by simp [hb]))
theorem NRs.wv (e : ∀ b, w.F b → H' b = H b) : ∀ {st : Sto} {as O : List Addr}, NRs G w H st as O → (∀ r ∈ as, H' r = H r ∧ r ≠ a) → (∀ b ∈ O, H' b = H b ∧ b ≠ a) → NRs G (w.wv a) H' st as O
  | _, _, _, .nil, _, _ => .nil
  | _, _, _, .cons (.nl h hs) r, ha, hO => .cons (.nl (by rw [(ha _ (by simp)).1]; exact h) (hs.wv e)) (NRs.wv e r (fun b z => ha b (by simp [z])) fun b z => hO b (by simp [z]))
  | _, _, _, .cons (.ni h hc hl hs) r, ha, hO => .cons (.ni (by rw [(ha _ (by simp)).1]; exact h) hc hl (hs.wv e fun b z => hO b (by simp [z]))) (NRs.wv e r (fun b z => ha b (by simp [z])) fun b z => hO b (by simp [z]))
  | _, _, _, .cons (.nk t h hc hl hs hz) r, ha, hO => .cons (.nk (by show (if _ then _ else _) = _; rw [if_neg (ha _ (by simp)).2]; exact t) (by rw [(ha _ (by simp)).1]; exact h) hc hl (hs.wv (fun b z => unf_eq (e b z)) fun b z => ⟨unf_eq (hO b (by simp [z])).1, (hO b (by simp [z])).2⟩) fun b hb => let ⟨o, e1, n⟩ := hz b hb; ⟨o, by rw [(hO b (by simp [hb])).1]; exact e1, n⟩) (NRs.wv e r (fun b z => ha b (by simp [z])) fun b z => hO b (by simp [z]))
  | _, _, _, .cons (.nd t h hs) r, ha, hO => .cons (.nd (by show (if _ then _ else _) = _; rw [if_neg (ha _ (by simp)).2]; exact t) (by rw [(ha _ (by simp)).1]; exact h) (hs.wv e)) (NRs.wv e r (fun b z => ha b (by simp [z])) fun b z => hO b (by simp [z]))
theorem SL.wv (e : ∀ b, w.F b → H' b = H b) : ∀ {σ : L2.St} {ρ : Env} {Os : List (List Addr)}, SL G w H σ ρ Os → (∀ b ∈ Os.flatten, H' b = H b ∧ b ≠ a) → SL G (w.wv a) H' σ ρ Os
  | _, _, _, .nil, _ => .nil
  | _, _, _, .no h, ha => .no (SL.wv e h fun b hm => ha b (by simpa using hm))
  | _, _, _, .so hv h, ha => .so (hv.wv e fun b hm => ha b (by simp [hm])) (SL.wv e h fun b hm => ha b (by
      rw [List.flatten_cons]; exact List.mem_append_right _ hm))
/-- a nobody's dict comes to stand in the store -/
theorem St.wv {ob : Obj} {kvs : List (Ky × D)} {vs : List V} (s : St G w H st) (ha : H a = some (.dK (zK kvs vs))) (nF : ¬ w.F a) (nR : a ∉ w.ρ) (nO : a ∉ w.O) (fs : FRs G w H (kvs.map (·.2)) vs) :
    St G (w.wv a) (upd H a (.frz ob (.dK (zK kvs vs)))) (st ++ [.nd kvs]) := by
  have eF : ∀ b, w.F b → upd H a (.frz ob (.dK (zK kvs vs))) b = H b := fun b z => upd_ne fun q => nF (q ▸ z)
  have some' : ∀ {b}, (∃ o, H b = some o ∧ ∀ ps, o ≠ .tbl ps) → ∃ o, upd H a (.frz ob (.dK (zK kvs vs))) b = some o ∧ ∀ ps, o ≠ .tbl ps := fun {b} h => by
    by_cases c : b = a
    · subst c
      exact ⟨_, upd_same, fun ps e => by cases e⟩
    · rw [upd_ne c]; exact h
  refine ⟨⟨fun b z => some' (s.wf.fa b z), fun b z => ⟨fun q => ?_, (s.wf.fr b z).2⟩, ?_, fun b z => ?_, fun b z => some' (s.wf.oa b z), tabsN_out (ds := [a]) (fun d z => by
    obtain rfl : d = a := by simpa using z
    exact ⟨_, ha, .inl (.inl ⟨_, rfl⟩)⟩) (fun b z => upd_ne (by simpa using z)) s.wf.tb⟩, ?_, s.nd, fun r L h => ?_⟩
  · rcases List.mem_append.mp q with q | q
    · exact (s.wf.fr b z).1 q
    · obtain rfl : b = a := by simpa using q
      exact nF z
  · show (w.ρ ++ [a]).Nodup
    refine List.nodup_append.mpr ⟨s.wf.nd, by simp, fun x hx y hy q => ?_⟩
    obtain rfl : y = a := by simpa using hy
    subst q
    exact nR hx
  · rcases List.mem_append.mp z with z | z
    · exact ⟨some' (s.wf.ra b z).1, (s.wf.ra b z).2⟩
    · obtain rfl : b = a := by simpa using z
      exact ⟨⟨_, upd_same, fun ps e => by cases e⟩, nO⟩
  · have q := NRs.snoc (w := w.wv a) (H := upd H a (.frz ob (.dK (zK kvs vs)))) (nd := .nd kvs) (a := a) (O2 := []) (.nd (by show (if a = a then some [] else w.T a) = _; rw [if_pos rfl]) upd_same (fs.wv eF)) (s.nr.wv (a := a) eF (fun r z => ⟨upd_ne fun q => nR (q ▸ z), fun q => nR (q ▸ z)⟩) fun b z => ⟨upd_ne fun q => nO (q ▸ z), fun q => nO (q ▸ z)⟩)
    rw [List.append_nil] at q
    exact q
  · have h : (if r = a then some [] else w.T r) = some L := h
    by_cases c : r = a
    · subst c
      refine ⟨w.ρ.length, .nd kvs, ?_, ?_, rfl⟩
      · show (w.ρ ++ [r])[_]? = _
        simp
      · rw [← s.nr.len]; simp
    · rw [if_neg c] at h
      obtain ⟨n, nd, e1, e2, e3⟩ := s.lk r L h
      refine ⟨n, nd, ?_, ?_, e3⟩
      · show (w.ρ ++ [a])[n]? = _
        rw [List.getElem?_append_left (List.getElem?_eq_some_iff.mp e1).1]; exact e1
      · rw [List.getElem?_append_left (List.getElem?_eq_some_iff.mp e2).1]; exact e2
/-- .. and leaves again -/
structure Wvd (G : Gx) (w : Wd) (H : Hp) (st : Sto) (a : Addr) (w2 : Wd) (H2 : Hp) (st2 : Sto) : Prop where
  po : Po w H (w2.less w.ρ w2.O) (thw [a] H2)
  s : St G (w2.less w.ρ w2.O) (thw [a] H2) st2.dropLast
  e : ∀ b, w2.F b → thw [a] H2 b = H2 b
  aO : a ∉ w2.O
  ρ : ∀ b ∈ w.ρ, b ∈ w2.ρ
  fz : ∃ o u, H2 a = some (.frz o u) ∧ isDk u
theorem Wvd.kr {Os Os1 : List (List Addr)} {H1 : Hp} {x : KD} {v : V} (l : Wvd G w H st a w2 H2 st2) (h : KR G Os1 w2 H2 H1 x v) (hk : keepB x.1 = true) (hr : isR x.2 = false) (h1 : ∀ b, H1 b = none → H b = none) : KR G Os (w2.less w.ρ w2.O) (thw [a] H2) H x v := by
  obtain ⟨k, d⟩ := x
  have vr : ∀ {l' : Nat} {O : List Addr}, VR G w2 H2 l' O d v → (∀ b ∈ O, b ∉ w2.O → True) → (∀ b ∈ O, thw [a] H2 b = H2 b) → VR G (w2.less w.ρ w2.O) (thw [a] H2) l' O d v := fun {l' O} hv _ hO => VR.tw (w := w2.less w.ρ w2.O) (T' := (w2.less w.ρ w2.O).T) l.e (hv.less l.ρ hr) hO
  have out : ∀ {l' : Nat} {O : List Addr}, VR G w2 H2 l' O d v → ∀ b ∈ O, thw [a] H2 b = H2 b := fun {l' O} hv b z => thw_out fun q => by
    obtain rfl : b = a := by simpa using q
    obtain ⟨o, u, e, hu⟩ := l.fz
    obtain ⟨u2, e2, k2⟩ := hv.kinds b z
    rw [e] at e2
    cases e2
    rcases k2 with ⟨xs, k2⟩ | ⟨_, k2⟩ | ⟨_, k2⟩ <;> cases k2
  cases k with
  | fz => exact FR.tw (w := w2.less w.ρ w2.O) (T' := (w2.less w.ρ w2.O).T) l.e (FR.less h hr)
  | an =>
    obtain ⟨O, a1, a2, a3⟩ := h
    exact ⟨O, fun l' => vr (a1 l') (fun _ _ _ => trivial) (out (a1 l')), a2, fun b z => ⟨h1 b (a3 b z).1, (a3 b z).2⟩⟩
  | fr l' =>
    obtain ⟨O, a1, a2, a3⟩ := h
    exact ⟨O, vr a1 (fun _ _ _ => trivial) (out a1), a2, fun b z => ⟨h1 b (a3 b z).1, (a3 b z).2⟩⟩
  | bo l' => cases hk
  | lk => cases hk
theorem plainX_noR {p : D} (h : plainX p = true) : isR p = false := by cases p <;> first | rfl | cases h
theorem Wvd.xr {p : D} {d : Option Addr} (l : Wvd G w H st a w2 H2 st2) (h : XR G w2 H2 p d) (hp : plainX p = true) : XR G (w2.less w.ρ w2.O) (thw [a] H2) p d := by
  rcases h with h | ⟨dd, v, e1, e2, f⟩
  · exact .inl h
  · refine .inr ⟨dd, v, e1, ?_, FR.tw (w := w2.less w.ρ w2.O) (T' := (w2.less w.ρ w2.O).T) l.e (FR.less f (plainX_noR hp))⟩
    rw [thw_out]
    · exact e2
    · intro z
      obtain rfl : dd = a := by simpa using z
      obtain ⟨o, u, e, _⟩ := l.fz
      rw [e2] at e
      cases e
end
section
variable {X : Cx} {G : Gx} {P : Pr} {pos : Pos}
end
end PV

/-! part PV106 -/
/-! PV106: a[k], b[l] = e, f and a[k], x = e, f: own dicts. -/
noncomputable section
namespace PV
open PySem PySem.W PySem.Spec PyProof.Rows L2 LamX NdefX
section
variable {G : Gx} {P : Pr} {W : WX} {w0 w wL : Wd} {H0 H HL : Hp} {σ : L2.St} {ρ : Env} {Os : List (List Addr)} {st : Sto} {E : Ends}
theorem OutS.putZ {y : KD} {f : D → M (Fl × Env)} (h : OutS G w0 H0 wL HL ((PV.putZ y >>= f) st) W E) : y.1 = .fz ∧ isR y.2 = false ∧ OutS G w0 H0 wL HL (f y.2 st) W E := by
  unfold PV.putZ at h
  by_cases c : y.1 = .fz ∧ isR y.2 = false
  · rw [if_pos c] at h; exact ⟨c.1, c.2, h⟩
  · rw [if_neg c] at h; exact h.elim
end
section
variable {X : Cx} {G : Gx} {P : Pr} {pos : Pos}
end
/-! ### Wp -/
section
variable {P : Pr} {ρ : Env} {st : Sto} {X : Nat → D → Sto → Prop}
@[simp] theorem wp_putZ {d : D} {Q : D → Sto → Prop} : Wp (putZ (.fz, d)) st Q X ↔ isR d = false ∧ Q d st := by
  unfold putZ
  by_cases c : isR d = false
  · rw [if_pos ⟨rfl, c⟩]; exact ⟨fun h => ⟨c, h⟩, fun h => h.2⟩
  · rw [if_neg (fun z => c z.2)]; exact ⟨fun h => h.elim, fun h => (c h.1).elim⟩
@[simp] theorem wp_dputM {i : Nat} {k : E} {d : D} {Q : Env → Sto → Prop} : Wp (dputM P i k d ρ) st Q X ↔ Wp (slotD ρ i) st (fun x s => Wp (ofO (ownD x)) s (fun kvs s => Wp (evE P k ρ) s (fun z s => Wp (ofO (keyO z.2)) s (fun kk s => szOk (kvs.length + 1) = true ∧ Q (ρ.set i (some (1, .dic (setK kvs kk d)))) s) X) X) X) X := by
  unfold dputM
  simp only [wp_bind]
  have e : ∀ (kvs : List (Ky × D)) (kk : Ky) (s : Sto), Wp (if szOk (kvs.length + 1) then pure (ρ.set i (some (1, .dic (setK kvs kk d)))) else no : M Env) s Q X ↔ (szOk (kvs.length + 1) = true ∧ Q (ρ.set i (some (1, .dic (setK kvs kk d)))) s) := fun kvs kk s => by
    cases c : szOk (kvs.length + 1) with
    | true => exact ⟨fun h => ⟨rfl, h⟩, fun h => h.2⟩
    | false => exact ⟨fun h => h.elim, fun h => nomatch h.1⟩
  simp only [e]
@[simp] theorem wp_dput2 {i j : Nat} {k l e f : E} {Q : Fl × Env → Sto → Prop} : Wp (evS P (.dput2 i k e j l f) ρ) st Q X ↔ Wp (evE P e ρ) st (fun y s => Wp (evE P f ρ) s (fun z s => Wp (putZ y) s (fun d s => Wp (putZ z) s (fun d2 s => Wp (dputM P i k d ρ) s (fun ρ1 s => Wp (dputM P j l d2 ρ1) s (fun ρ2 s => Q (.nx, ρ2) s) X) X) X) X) X) X := by
  rw [evS]
  simp only [wp_bind]
  rfl
@[simp] theorem wp_dputn {i j lv : Nat} {k e f : E} {Q : Fl × Env → Sto → Prop} : Wp (evS P (.dputn i k e j lv f) ρ) st Q X ↔ Wp (evE P e ρ) st (fun y s => Wp (evE P f ρ) s (fun z s => Wp (putZ y) s (fun d s => Wp (dputM P i k d ρ) s (fun ρ1 s => Wp (setM j lv z ρ1) s (fun ρ2 s => Q (.nx, ρ2) s) X) X) X) X) X := by
  rw [evS]
  simp only [wp_bind]
  rfl
@[simp] theorem wp_ldS {i : Nat} {Q : KD → Sto → Prop} : Wp (evE P (.ld i) ρ) st Q X ↔ Wp (slotD ρ i) st (fun x s => Wp (ldM x) s Q X) X := by
  rw [evE]
  simp only [wp_bind]
@[simp] theorem wp_ldM0 {kvs : List (Ky × D)} {Q : KD → Sto → Prop} : Wp (ldM (0, .dic kvs)) st Q X ↔ Q (.fz, .dic kvs) st := Iff.rfl
theorem wp_ldR {n : Nat} {kvs : List (Ky × D)} {Q : KD → Sto → Prop} (e : st[n]? = some (.nd kvs)) : Wp (ldM (0, .ref n)) st Q X ↔ Q (.lk, .dic kvs) st := by
  have q : ldM (0, .ref n) st = ldN st[n]? st := rfl
  unfold Wp
  rw [q, e]
  exact Iff.rfl
@[simp] theorem wp_ldR1 {a : Nd} {r : Sto} {kvs : List (Ky × D)} {Q : KD → Sto → Prop} : Wp (ldM (0, .ref 1)) (a :: .nd kvs :: r) Q X ↔ Q (.lk, .dic kvs) (a :: .nd kvs :: r) := wp_ldR rfl
@[simp] theorem wp_ldR2 {a b : Nd} {r : Sto} {kvs : List (Ky × D)} {Q : KD → Sto → Prop} : Wp (ldM (0, .ref 2)) (a :: b :: .nd kvs :: r) Q X ↔ Q (.lk, .dic kvs) (a :: b :: .nd kvs :: r) := wp_ldR rfl
@[simp] theorem wp_wlv {i : Nat} {e : E} {Q : KD → Sto → Prop} : Wp (evE P (.wlv i e) ρ) st Q X ↔ Wp (slotD ρ i) st (fun x s => Wp (ofO (ownD x)) s (fun kvs s => Wp (wvM kvs fun n => evE P e (ρ.set i (some (0, .ref n)))) s Q X) X) X := by
  rw [evE]
  simp only [wp_bind]
end
end PV

/-! part PV107 -/
/-! PV107: x = [sum(row) for row in rows], rows one's own list of lists. -/
noncomputable section
namespace PV
open PySem PySem.W PySem.Spec PyProof.Rows L2 LamX NdefX
/-- sum(row), row a name -/
def tSumv (K : PySem.W.Frag) (i : Nat) : TE := fun σ H Q => ∃ (a : Addr) (ns : List Int), σ[i]? = some (some (.ref a)) ∧ SqL K H a (ns.map V.int) ∧ Q (.int ns.sum) H
theorem sumsL_at : ∀ {ds : List D} {is : List Int}, sumsL ds = some is → is.length = ds.length ∧ ∀ (j : Nat) (d : D), ds[j]? = some d → ∃ (es : List D) (ns : List Int), d = .lst es ∧ intsO es = some ns ∧ is[j]? = some ns.sum
  | [], is, h => by
    simp only [sumsL, Option.some.injEq] at h
    subst h
    exact ⟨rfl, fun j d e => by simp at e⟩
  | d :: ds, is, h => by
    cases d with
    | lst es =>
      unfold sumsL at h
      cases e1 : intsO es with
      | none => rw [e1] at h; cases h
      | some ns =>
        cases e2 : sumsL ds with
        | none => rw [e1, e2] at h; cases h
        | some r =>
          rw [e1, e2] at h
          cases h
          obtain ⟨l, k⟩ := sumsL_at e2
          refine ⟨by simp [l], fun j d e => ?_⟩
          cases j with
          | zero =>
            simp at e
            subst e
            exact ⟨es, ns, rfl, e1, rfl⟩
          | succ j => exact k j d (by simpa using e)
    | _ => simp [sumsL] at h
section
variable {G : Gx} {w : Wd} {H : Hp}
/-- a list of lists of ints: where its items stand -/
theorem VR.sums {l : Nat} {O : List Addr} {ds : List D} {v : V} {is : List Int} (h : VR G w H l O (.lst ds) v) (e : sumsL ds = some is) : ∃ a vs, v = .ref a ∧ H a = some (.lst vs) ∧ vs.length = is.length ∧ ∀ (j : Nat) (u : V), vs[j]? = some u → ∃ (c : Addr) (ns : List Int), u = .ref c ∧ H c = some (.lst (ns.map V.int)) ∧ is[j]? = some ns.sum := by
  obtain ⟨el, k⟩ := sumsL_at e
  have fin : ∀ {a : Addr} {vs : List V}, ds.length = vs.length → (∀ (j : Nat) (d : D), ds[j]? = some d → ∃ u l' O', vs[j]? = some u ∧ VR G w H l' O' d u) → ∀ (j : Nat) (u : V), vs[j]? = some u → ∃ (c : Addr) (ns : List Int), u = .ref c ∧ H c = some (.lst (ns.map V.int)) ∧ is[j]? = some ns.sum := fun {a vs} hl hk j u eu => by
    have hj : j < ds.length := by rw [hl]; exact (List.getElem?_eq_some_iff.mp eu).1
    obtain ⟨es, ns, ed, ei, es'⟩ := k j _ (List.getElem?_eq_getElem hj)
    obtain ⟨u', l', O', e1, hv⟩ := hk j _ (List.getElem?_eq_getElem hj)
    rw [eu] at e1
    cases e1
    rw [ed] at hv
    obtain rfl := ints_of ei
    rcases hv.lst_inv with ⟨q, _⟩ | ⟨l2, c, O2, us, _, rfl, _, hc, _, _, hs⟩
    · obtain ⟨c, us, rfl, _, hc, hs⟩ := q.lst_inv
      obtain rfl := hs.ints
      exact ⟨c, ns, rfl, hc, es'⟩
    · have q : ∀ {is : List Int} {O : List Addr} {us : List V}, VRs G w H l2 O (is.map .int) us → us = is.map V.int := by
        intro is
        induction is with
        | nil => intro O us h; cases h; rfl
        | cons i is ih =>
          intro O us h
          cases h with
          | cons n h hs =>
            rw [ih hs]
            have := h.ncf rfl
            cases this
            rfl
      rw [q hs] at hc
      exact ⟨c, ns, rfl, hc, es'⟩
  rcases h.lst_inv with ⟨q, _⟩ | ⟨l', a, O', vs, _, rfl, _, ha, _, _, hs⟩
  · obtain ⟨a, vs, rfl, _, ha, hs⟩ := q.lst_inv
    exact ⟨a, vs, rfl, ha, by rw [← hs.length, el], fin (a := a) hs.length fun j d e => by
      obtain ⟨u, e1, hu⟩ := hs.get e
      exact ⟨u, 0, [], e1, .zero hu⟩⟩
  · exact ⟨a, vs, rfl, ha, by rw [← hs.length, el], fin (a := a) hs.length fun j d e => by
      obtain ⟨u, O2, e1, _, hu⟩ := hs.get e
      exact ⟨u, l', O2, e1, hu⟩⟩
end
section
variable {X : Cx} {G : Gx} {P : Pr} {pos : Pos}
end
/-! ### Wp -/
section
variable {P : Pr} {ρ : Env} {st : Sto} {X : Nat → D → Sto → Prop}
@[simp] theorem wp_sums {i j : Nat} {Q : KD → Sto → Prop} : Wp (evE P (.sums i j) ρ) st Q X ↔ Wp (slotD ρ j) st (fun x s => Wp (ofO (sumsO x.2)) s (fun is s => (decide (i ≠ j ∧ i < ρ.length) && szOk is.length) = true ∧ Q (.an, .lst (is.map .int)) s) X) X := by
  rw [evE]
  simp only [wp_bind, wp_ifno, wp_pure]
end
end PV

/-! part PV108 -/
/-! PV108: data in order: a list that rises is its order; the least of a list. -/
noncomputable section
namespace PV
open PySem L2
section
variable {α : Type} {f : α → D} {p : α → PyData}
end
section
variable {α : Type} {f : α → D} {p : α → PyData}
end
/-! pairs and lists of pairs -/
def ltP (p q : Int × Int) : Bool := decide (p.1 < q.1 ∨ (p.1 = q.1 ∧ p.2 < q.2))
def ltLb : List (Int × Int) → List (Int × Int) → Bool
  | [], [] => false
  | [], _ :: _ => true
  | _ :: _, [] => false
  | p :: r, q :: s => if p = q then ltLb r s else ltP p q
abbrev p2P (p : Int × Int) : PyData := .tuple [.int p.1, .int p.2]
/-- a number and a list of pairs -/
abbrev rkD (x : Int × List (Int × Int)) : D := .tup [.int x.1, .tup (x.2.map t2)]
abbrev rkP (x : Int × List (Int × Int)) : PyData := .tuple [.int x.1, .tuple (x.2.map p2P)]
end PV

/-! part PV109 -/
/-! PV109: any(..) of a generator expression with two fors: the raw rule. -/
namespace PV
open PySem PySem.Spec PyProof.Rows L2 LamX NdefX

abbrev g2 (elt t0 i0 t1 i1 : Expr) (ifs0 ifs1 : List Expr) (scope : Scope) (pos : Pos) : Expr := .GeneratorExp elt [⟨t0, i0, ifs0, 0⟩, ⟨t1, i1, ifs1, 0⟩] scope pos
/-- any(elt for tg in .. if .. for tg1 in .. if ..): an inner walk has at most B turns -/
def GyW (B : Nat) (J : It) (g : TG) (tt : TT) (wi1 : TI) (g1 : TG) (tt1 : TT) (te : TE) (vs vs1 : List Nat) (σ : L2.St) (Q : VK) (W : Nat → Nat → Hp → Prop) : Prop := ∀ i m H, W i m H →
  (J.stop i H ∧ Q (.bl false) H) ∨ (J.go i H ∧ ∃ Nx : Hp → Prop, (∀ H', Nx H' → ∃ m', m' < m ∧ W (i + 1) m' H') ∧ ∀ x H', J.yld i H x H' → g x (wipe σ vs) H' fun σ2 H2 => wipe σ2 vs = wipe σ vs ∧ tt σ2 H2 fun b H3 =>
    if b = true then wi1 σ2 H3 fun J1 H4 => ∃ W1 : Nat → Nat → Hp → Prop, (∃ m, m ≤ B ∧ W1 0 m H4) ∧ ∀ j k H, W1 j k H →
      (J1.stop j H ∧ Nx H) ∨ (J1.go j H ∧ ∃ Nx1 : Hp → Prop, (∀ H', Nx1 H' → ∃ k', k' < k ∧ W1 (j + 1) k' H') ∧ ∀ x H', J1.yld j H x H' → g1 x (wipe σ2 vs1) H' fun σ3 H5 => wipe σ3 vs1 = wipe σ2 vs1 ∧ tt1 σ3 H5 fun b H6 =>
        if b = true then te σ3 H6 fun y H7 => (y = .bl true ∧ Q (.bl true) H7) ∨ (y = .bl false ∧ Nx1 H7) else Nx1 H6)
    else Nx H3)
def tGy (T : List NTab) (B : Nat) (wi : TI) (g : TG) (tt : TT) (wi1 : TI) (g1 : TG) (tt1 : TT) (te : TE) (vs vs1 : List Nat) : TE := fun σ H Q => wi σ H fun J H1 => TabsN T H1 ∧ ∀ H2, ExtN H1 H2 → (∀ b, H2 b = none → H1 b = none) → TabsN T H2 →
  ∃ W : Nat → Nat → Hp → Prop, (∃ m, W 0 m H2) ∧ GyW B J g tt wi1 g1 tt1 te vs vs1 σ Q W
def gyY (Xg : Cx) (ps : List Addr) (σw : L2.St) (Q : VK) : Protocol := fun n s₀ v s kap =>
  ∃ y H1, RelV y v ∧ Inv Xg (pinsAt ps s₀.heap) σw H1 s ∧ ((y = .bl true ∧ Q (.bl true) H1) ∨ (y = .bl false ∧ ∀ g', AllBare g' → kap (.send .none) { s with gens := g' }))
def gyP (Xg : Cx) (ps : List Addr) (σw : L2.St) (Q : VK) : Nat → Shared → Shared → Prop := fun n s₀ s => ∃ H1, Inv Xg (pinsAt ps s₀.heap) σw H1 s ∧ Q (.bl false) H1
abbrev gyR (Xg : Cx) (ps : List Addr) (σw : L2.St) (Q : VK) : GenEnd := fun n s₀ r s₁ => r = .ok .next ∧ gyP Xg ps σw Q n s₀ s₁
section
variable {Xg : Cx} {elt tg iter tg1 iter1 : Expr} {ifs ifs1 : List Expr} {scope : Scope} {pos : Pos} {it : Addr} {fp ps : List Addr} {tn : Nat → Heap → Prop} {J : It} {A : Around} {g g1 : TG} {tt tt1 : TT} {te : TE} {wi1 : TI} {vs vs1 : List Nat} {σ : L2.St} {Q : VK} {W : Nat → Nat → Hp → Prop} {B : Nat}
end
end PV

/-! part PV110 -/
/-! PV110: any(..) of a generator expression with two fors: made, asked. -/
namespace PV
open PySem PySem.Spec PyProof.Rows L2 LamX NdefX

section
variable {Xg : Cx} {elt tg iter tg1 iter1 : Expr} {ifs ifs1 : List Expr} {scope : Scope} {pos : Pos} {it : Addr} {fp ps : List Addr} {tn : Nat → Heap → Prop} {J : It} {A : Around} {g g1 : TG} {tt tt1 : TT} {te : TE} {wi1 : TI} {vs vs1 : List Nat} {σ : L2.St} {Q : VK} {W : Nat → Nat → Hp → Prop} {B : Nat}
end
/-- the generator a (its number j), asleep -/
structure GySt (Xg : Cx) (A : Around) (a : Addr) (j : Nat) (ps : List Addr) (σw : L2.St) (Q : VK) (n : Nat) (s : Shared) : Prop where
  inv : ∃ H, Inv Xg (pinsAt ps s.heap) σw H s
  gen : s.heap.IsGen a j
  go : ∃ gs, s.gens[j]? = some gs ∧ ∀ g', AllBare g' → gs.Goes (model Xg.prog Xg.w) A (gyR Xg ps σw Q) (gyY Xg ps σw Q) n (.send .none) { s with gens := g' }
section
variable {Xg : Cx} {A : Around} {a : Addr} {j : Nat} {ps : List Addr} {σw : L2.St} {Q : VK} {n : Nat} {s : Shared}
end
end PV

/-! part PV111 -/
/-! PV111: any(..) of a generator expression with two fors: the rule. -/
namespace PV
open PySem PySem.Spec PyProof.Rows L2 LamX NdefX

section
variable {X : Cx} {pins : List (Addr × Obj)} {σ : L2.St} {H : Hp} {s : Shared}
end
end PV

/-! part PV112 -/
/-! PV112: any(..) of a generator expression with two fors, as a value. -/
namespace PV
open PySem PySem.Spec PyProof.Rows L2 LamX NdefX

section
variable {X : Cx}
end
end PV

/-! part PV113 -/
/-! PV113: any(.. for .. for ..): the small term. -/
noncomputable section
namespace PV
open PySem L2 LamX NdefX
def gyM1 (P : Pr) (elt : E) (tg1 : Tg) (ifs1 : List E) (ρ1 : Env) (acc : Bool) (d : D) : M Bool := if acc then pure acc else do
  let ρ2 ← PV.ofO (bindT tg1 d (wipeE ρ1 (tgV tg1)))
  let t ← evT P ifs1 ρ2
  if t then do
    let y ← evE P elt ρ2
    PV.ofO (boolO y.2)
  else pure acc
def gyM2 (P : Pr) (elt : E) (tg : Tg) (ifs : List E) (tg1 : Tg) (ik1 : Ik) (src1 ifs1 : List E) (ρ : Env) (acc : Bool) (d : D) : M Bool := do
  let ρ1 ← PV.ofO (bindT tg d (wipeE ρ (tgV tg ++ tgV tg1)))
  let t ← evT P ifs ρ1
  if t then do
    let xs1 ← evEs P src1 ρ1
    let ds1 ← if forB xs1 then itD ik1 xs1 else no
    if szOk ds1.length then foldM (gyM1 P elt tg1 ifs1 ρ1) ds1 false else no
  else pure acc
def gyF (P : Pr) (elt : E) (tg : Tg) (ifs : List E) (tg1 : Tg) (ik1 : Ik) (src1 ifs1 : List E) (ρ : Env) (acc : Bool) (d : D) : M Bool := if acc then pure acc else PV.calm (gyM2 P elt tg ifs tg1 ik1 src1 ifs1 ρ acc d)
theorem evE_gen2 {P : Pr} {elt : E} {tg : Tg} {ik : Ik} {src ifs : List E} {tg1 : Tg} {ik1 : Ik} {src1 ifs1 : List E} {ρ : Env} : evE P (.gen2 elt tg ik src ifs tg1 ik1 src1 ifs1) ρ = evI P ik src ρ >>= fun ds => foldM (gyF P elt tg ifs tg1 ik1 src1 ifs1 ρ) ds false >>= fun b => pure (.fz, .bl b) := by
  rw [evE]
  unfold evI
  rw [M.assoc]
  rfl
section
variable {P : Pr} {elt : E} {tg : Tg} {ifs : List E} {tg1 : Tg} {ik1 : Ik} {src1 ifs1 : List E} {ρ : Env}
end
section
variable {X : Cx} {G : Gx} {P : Pr} {pos : Pos}
end
end PV

/-! part PV114 -/
/-! PV114: a text is walked; range with a step is walked. -/
noncomputable section
namespace PV
open PySem L2 LamX NdefX

def chrD (x : Str) : List D := x.cps.toList.map fun c => .str ⟨#[c]⟩
section
variable {G : Gx} {w : Wd} {H : Hp}
theorem chr_at {x : Str} {i : Nat} {d : D} (e : (chrD x)[i]? = some d) : i < x.cps.size ∧ ∃ c, x.cps[i]? = some c ∧ d = .str ⟨#[c]⟩ := by
  unfold chrD at e
  rw [List.getElem?_map] at e
  cases q : x.cps.toList[i]? with
  | none => rw [q] at e; cases e
  | some c =>
    rw [q] at e
    cases e
    have hi := (List.getElem?_eq_some_iff.mp q).1
    exact ⟨by simpa using hi, c, by simpa using q, rfl⟩
theorem chr_len (x : Str) : (chrD x).length = x.cps.size := by simp [chrD]
theorem itW_chr {x : Str} : Walk G w H (Its x) (chrD x) := by
  refine ⟨fun w' H' i p hi => by rw [chr_len] at hi; exact hi, fun w' H' i p hi => by rw [chr_len] at hi; exact hi, fun w' H' st i d v H2 p s' e y => ?_⟩
  obtain ⟨e2, c, hc, rfl⟩ := y
  subst e2
  obtain ⟨_, c', hc', rfl⟩ := chr_at e
  rw [hc] at hc'
  cases hc'
  exact ⟨w', Po.refl _ _, s', FR.str _⟩
end
section
variable {X : Cx} {G : Gx} {P : Pr} {pos : Pos} {tg : Expr}
theorem chr_inv {x : KD} {st : Sto} {w : Wd} {H : Hp} {W : XK} {α : Type} {Rel : Wd → Hp → Hp → List D → α → Prop} {R : α → Hp → Prop} (h : Out G Rel w H (itD .chr [x] st) W R) : ∃ z, x.2 = .str z ∧ szOk z.length = true ∧ Out G Rel w H ((pure (chrD z) : M (List D)) st) W R := by
  obtain ⟨kx, dx⟩ := x
  cases dx with
  | str z =>
    unfold itD at h
    dsimp only at h
    obtain ⟨c, h⟩ := Out.ifno h
    exact ⟨z, rfl, c, h⟩
  | _ => exact h.elim
theorem chr_sz {z : Str} (h : szOk z.length = true) : (chrD z).length ≤ sizeLine := by
  rw [chr_len]
  exact of_decide_eq_true h
theorem di_chr {p : Expr} {e : E} (h : DE X G P p e) : DI X G P tg p .chr [e] := fun W tk =>
  imI (pi_str (h W tk)) fun σ H R ⟨w, ρ, Os, st, g, ot⟩ => by
    rw [evI_bind] at ot
    refine ⟨w, ρ, Os, st, g, Out.bind (Po.refl _ _) ot fun x st1 v w1 H1 p1 s1 k1 o1 => ?_⟩
    obtain ⟨z, ez, c, o2⟩ := chr_inv o1
    obtain ⟨kx, dx⟩ := x
    dsimp only at ez
    subst ez
    exact ⟨z, k1.str, Out.fin o2 p1 s1 ⟨itW_chr, chr_sz c⟩⟩
end
end PV

/-! part PV115 -/
/-! PV115: a, b, c, d = ..; a, b = x.pop(). -/
noncomputable section
namespace PV
open PySem PySem.W PySem.Spec PyProof.Rows L2 LamX NdefX
section
variable {X : Cx} {G : Gx} {P : Pr} {pos : Pos}
theorem FRs.dropLast {w : Wd} {H : Hp} : ∀ {ds : List D} {vs : List V}, FRs G w H ds vs → FRs G w H ds.dropLast vs.dropLast
  | [], [], .nil => .nil
  | [_], [_], .cons _ _ .nil => .nil
  | _ :: _ :: _, _ :: _ :: _, .cons n a (.cons n' b c) => by
    rw [List.dropLast_cons₂, List.dropLast_cons₂]
    exact .cons n a (FRs.dropLast (.cons n' b c))
end
section
variable {P : Pr} {ρ : Env} {st : Sto} {X : Nat → D → Sto → Prop}
@[simp] theorem wp_par4 {i li j lj k lk m lm : Nat} {a b c d : E} {Q : Fl × Env → Sto → Prop} : Wp (evS P (.par4 i li j lj k lk m lm a b c d) ρ) st Q X ↔ Wp (evE P a ρ) st (fun x s => Wp (evE P b ρ) s (fun y s => Wp (evE P c ρ) s (fun z s => Wp (evE P d ρ) s (fun u s => Wp (ofO (slotL li x.1)) s (fun l s => Wp (ofO (slotL lj y.1)) s (fun l' s => Wp (ofO (slotL lk z.1)) s (fun l'' s => Wp (ofO (slotL lm u.1)) s (fun l4 s => Q (.nx, (((ρ.set i (some (l, x.2))).set j (some (l', y.2))).set k (some (l'', z.2))).set m (some (l4, u.2))) s) X) X) X) X) X) X) X) X := by
  rw [evS]
  unfold setM
  simp only [wp_bind, wp_pure]
@[simp] theorem wp_popl {t : Tg} {i : Nat} {Q : Fl × Env → Sto → Prop} : Wp (evS P (.popl t i) ρ) st Q X ↔ Wp (slotD ρ i) st (fun x s => Wp (ofO (ownL1 x)) s (fun ds s => Wp (ofO ds.getLast?) s (fun d s => Wp (ofO (bindT t d (ρ.set i (some (1, .lst ds.dropLast))))) s (fun ρ1 s => Q (.nx, ρ1) s) X) X) X) X := by
  rw [evS]
  simp only [wp_bind, wp_pure]
@[simp] theorem wp_gen2 {elt : E} {tg tg1 : Tg} {ik ik1 : Ik} {src ifs src1 ifs1 : List E} {Q : KD → Sto → Prop} : Wp (evE P (.gen2 elt tg ik src ifs tg1 ik1 src1 ifs1) ρ) st Q X ↔ Wp (evEs P src ρ) st (fun xs s => Wp (itD ik xs) s (fun ds s => Wp (foldM (gyF P elt tg ifs tg1 ik1 src1 ifs1 ρ) ds false) s (fun b s => Q (.fz, .bl b) s) X) X) X := by
  rw [evE_gen2]
  unfold evI
  simp only [wp_bind, wp_pure]
@[simp] theorem wp_itCHR {z : Str} {k : Kd} {Q : List D → Sto → Prop} : Wp (itD .chr [(k, .str z)]) st Q X ↔ szOk z.length = true ∧ Q (chrD z) st := wp_ifno
@[simp] theorem wp_itRG3 {i j c : Int} {k k' k'' : Kd} {Q : List D → Sto → Prop} : Wp (itD .rg3 [(k, .int i), (k', .int j), (k'', .int c)]) st Q X ↔ lrgOk i j c = true ∧ Q ((RT.rangeC i c (RT.rngN i j c)).map .int) st := wp_ifno
end
end PV

/-! part PV116 -/
/-! PV116: zip of two texts (below 128), the raw rule. -/
namespace PV
open PySem PySem.Spec PyProof.Rows L2

structure ZsAp (z TI TO i1 i2 : Addr) : Prop where
  TIz : TI ≠ z
  TOz : TO ≠ z
  i1z : i1 ≠ z
  i2z : i2 ≠ z
  TITO : TI ≠ TO
  TIi1 : TI ≠ i1
  TIi2 : TI ≠ i2
  TOi1 : TO ≠ i1
  TOi2 : TO ≠ i2
  i12 : i1 ≠ i2
abbrev aIt : String := "str_ascii_iterator"
section
variable {prog : Program} {w : World} {A : Around} {E : Value → Shared → Prop} {s : Shared}
end
end PV

/-! part PV117 -/
/-! PV117: zip of two texts, walked. -/
namespace PV
open PySem PySem.Spec PyProof.Rows L2 LamX NdefX

section
variable {prog : Program} {w : World} {A : Around} {E : Value → Shared → Prop} {s : Shared}
abbrev zsH1 (h : Heap) (x : Str) (t : Tok) : Heap := h.push { cls := .type aIt, data := .fields #[.str x t, .int 0 0] }
abbrev zsH2 (h : Heap) (x y : Str) (t u : Tok) : Heap := (zsH1 h x t).push { cls := .type aIt, data := .fields #[.str y u, .int 0 0] }
abbrev zsH3 (h : Heap) (x y : Str) (t u : Tok) : Heap := (zsH2 h x y t u).push { cls := .type "tuple", data := .seq #[.ref h.objs.size, .ref (zsH1 h x t).objs.size] }
abbrev zsH4 (h : Heap) (x y : Str) (t u : Tok) : Heap := (zsH3 h x y t u).push { cls := .type "tuple", data := .seq #[.none, .none] }
abbrev zsH5 (h : Heap) (x y : Str) (t u : Tok) : Heap := (zsH4 h x y t u).push { cls := .type "zip", data := .fields #[.none, .bool false, .bool false, .ref (zsH2 h x y t u).objs.size, .ref (zsH3 h x y t u).objs.size] }
end
section
variable {prog : Program} {w : World} {A : Around} {E : Value → Shared → Prop} {s : Shared}
end
/-- two texts, sign by sign, in new pairs -/
def ItzS (x y : Str) : It :=
  ⟨fun i _ => i < x.cps.size ∧ i < y.cps.size, fun i H v H' => ∃ T c d, v = .ref T ∧ H T = none ∧ H' = upd H T (.tup [.str ⟨#[c]⟩, .str ⟨#[d]⟩]) ∧ x.cps[i]? = some c ∧ y.cps[i]? = some d, fun i _ => x.cps.size ≤ i ∨ y.cps.size ≤ i⟩
def iZipS (ta : TA) : TI := fun σ H R => ta σ H fun vs H1 => ∃ x y : Str, vs = [.str x, .str y] ∧ x.cps.all (· < 128) = true ∧ y.cps.all (· < 128) = true ∧ R (ItzS x y) H1
end PV

/-! part PV118 -/
/-! PV118: zip of two texts, the small term. -/
noncomputable section
namespace PV
open PySem L2 LamX NdefX

def zpsD (x y : Str) : List D := (x.cps.toList.zip y.cps.toList).map fun p => .tup [.str ⟨#[p.1]⟩, .str ⟨#[p.2]⟩]
section
variable {G : Gx} {w : Wd} {H : Hp}
end
section
variable {X : Cx} {G : Gx} {P : Pr} {pos : Pos} {elts : List Expr} {kk : Nat} {tpos : Pos}
end
section
variable {st : Sto} {X : Nat → D → Sto → Prop}
end
end PV

/-! part PV119 -/
/-! PV119: a text's count of a text. -/
noncomputable section
namespace PV
open PySem PySem.W PySem.Spec PyProof.Rows L2 LamX NdefX
section
variable {X : Cx} {G : Gx} {P : Pr} {pos : Pos}
end
@[simp] theorem okM_cntS {a : Str} : okM .cntS (.str a) = true := rfl
@[simp] theorem wp_cntS {a b : Str} {k k' : Kd} {st : Sto} {X : Nat → D → Sto → Prop} {Q : KD → Sto → Prop} : Wp (mcD .cntS (k, .str a) [(k', .str b)]) st Q X ↔ Q (.fz, .int (Txt.count a b)) st := Iff.rfl
end PV

/-! part PV120 -/
/-! PV120: self.x[k] += e (a dict of ints, an own field). -/
noncomputable section
namespace PV
open PySem PySem.W PySem.Spec PyProof.Rows L2 LamX NdefX
section
variable {X : Cx} {G : Gx} {P : Pr} {pos : Pos} {c i k : Nat} {C : Addr} {fs : List Str} {x f : Str} {npos apos spos : Pos}
end
end PV

/-! part PV121 -/
/-! PV121: reversed(a text), raw. -/
namespace RS
open PySem PySem.Spec PyProof.Rows RT
theorem getS : typeLookup (.type "str") "__getitem__" = pure (some (.builtin "str.__getitem__")) := by
  rw [typeLookup_type, builtinLookup_eq_fast]
  kernel_rfl
def rsO (x : Str) (t : Tok) (i : Int) : Obj := { cls := .type "reversed", data := .fields #[.str x t, rawInt i] }
/-- at a: reversed(x), its next place i -/
def IsRs (h : Heap) (a : Addr) (x : Str) (t : Tok) (i : Int) : Prop := ∃ ob, h.get? a = some ob ∧ ob.cls = .type "reversed" ∧ ob.data = .fields #[.str x t, rawInt i]
theorem IsRs.to {h h' : Heap} {a : Addr} {x : Str} {t : Tok} {i : Int} (r : IsRs h a x t i) (k : ∀ ob, h.get? a = some ob → h'.get? a = some ob) : IsRs h' a x t i := by
  obtain ⟨ob, e, c, d⟩ := r
  exact ⟨ob, k _ e, c, d⟩
section
variable {prog : Program} {w : World} {A : Around} {E : Value → Shared → Prop} {s : Shared} {x : Str} {t : Tok}
theorem IsRs.ty {a : Addr} {i : Int} (r : IsRs s.heap a x t i) : s.TypeIs (.ref a) "reversed" := by
  obtain ⟨ob, e, c, _⟩ := r
  exact ⟨ob, e, c⟩
end
def RevAt (x : Str) (i : Nat) (v : Value) : Prop := ∃ c u, x.cps[x.length - 1 - i]? = some c ∧ v = .str ⟨#[c]⟩ u
theorem slotR : Slot "reversed" "__length_hint__" "reversed.__length_hint__" :=
  .of (owner := "reversed") (n := "__length_hint__") (by rw [typeLookup_type, builtinLookup_eq_fast]; kernel_rfl) (by decide +kernel) (by decide +kernel) (by decide +kernel) (by first | exact .inl (by decide +kernel) | exact .inr (by decide +kernel)) (by rw [isSubtype_type]; kernel_rfl)
section
variable {prog : Program} {w : World} {A : Around} {E : Value → Shared → Prop} {s : Shared} {x : Str} {t : Tok}
end
section
variable {prog : Program} {w : World} {A : Around} {E : Value → Shared → Prop} {s : Shared} {x : Str} {t t0 : Tok}
end
end RS

/-! part PV122 -/
/-! PV122: "".join(reversed(x)) of a text; {k: v} with a tuple as its key; x.replace(y, z). -/
noncomputable section
namespace PV
open PySem PySem.W PySem.Spec PyProof.Rows L2 LamX NdefX RT
def tRevS (te : TE) : TE := fun σ H Q => te σ H fun v H1 => ∃ a : Str, v = .str a ∧ a.length ≤ 16777216 ∧ Q (.str ⟨a.cps.reverse⟩) H1
section
variable {X : Cx} {G : Gx} {P : Pr} {pos : Pos}
@[simp] theorem wp_revS {z : Str} {k : Kd} {st : Sto} {X : Nat → D → Sto → Prop} {Q : KD → Sto → Prop} : Wp (biD .revS [(k, .str z)]) st Q X ↔ szOk z.length = true ∧ Q (.fz, .str (revT z)) st := wp_ifno
/-! ### {k: v}, k a tuple -/
def tDispT1 (tk tv : TE) : TE := fun σ H Q => ∀ p, H p = none → tk σ (upd H p (.dT [])) fun x H1 => tv σ H1 fun y H2 => H2 p = some (.dT []) ∧ ∃ (k : List L2.Key) (b : Addr), x = .ref b ∧ H2 b = some (.tup (k.map kV)) ∧ Q (.ref p) (upd H2 p (.dT [(k, y)]))
end
end PV

/-! part PV123 -/
/-! PV123: "..".join(x).replace("..", ".."). -/
noncomputable section
namespace PV
open PySem PySem.W PySem.Spec PyProof.Rows L2 LamX NdefX RT
def tJR (K : PySem.W.Frag) (sep y z : Str) (te : TE) : TE := fun σ H Q => te σ H fun v H1 => ∃ (p : Addr) (ys : List Str), v = .ref p ∧ (SqL K H1 p (ys.map V.str) ∨ SqT K H1 p (ys.map V.str)) ∧ (ys.map (·.length)).sum + ys.length * sep.length ≤ 16777216 ∧
  (Txt.join sep ys).length + ((Txt.join sep ys).length + 1) * z.length ≤ 16777216 ∧ Q (.str (Txt.replace (Txt.join sep ys) y z)) H1
section
variable {X : Cx} {G : Gx} {P : Pr} {pos : Pos}
@[simp] theorem okM_rplS {a : Str} : okM .rplS (.str a) = true := rfl
end
end PV

/-! part PV124 -/
/-! PV124: sorted(d) of a dict whose keys are tuples (the raw rule). -/
noncomputable section
namespace RT
open PySem PySem.W PySem.Spec PyProof.Rows L2
def tupP (k : List Key) : PyData := .tuple (k.map keyP)
def rSortDicT (K : PySem.W.Frag) : List V → Hp → VK → Prop := fun vs H Q => ∃ (a : Addr) (kvs : List (List Key × V)), vs = [.ref a] ∧ Rd H a (.dT kvs) ∧ (∀ bs, IsKeys H kvs bs → DpAll K H (bs.map V.ref) (kvs.map fun kv => tupP kv.1)) ∧
  AllAlike (kvs.map fun kv => tupP kv.1) ∧ Sortable (kvs.map fun kv => tupP kv.1) ∧ PyData.depthAll (kvs.map fun kv => tupP kv.1) ≤ 16 ∧
  ∀ bs q, IsKeys H kvs bs → H q = none → Q (.ref q) (upd H q (.lst ((((bs.map V.ref).zip (kvs.map fun kv => tupP kv.1)).mergeSort (dataLe false (·.2))).map (·.1))))
section
variable {X : Cx}
end
end RT

/-! part PV125 -/
/-! PV125: enumerate of a text, walked. -/
namespace PV
open PySem PySem.Spec PyProof.Rows L2 LamX NdefX
/-- a text's signs with their places, in new pairs -/
def ItEnS (x : Str) : It :=
  ⟨fun i _ => i < x.cps.size, fun i H v H' => ∃ T c, v = .ref T ∧ H T = none ∧ H' = upd H T (.tup [.int (i : Nat), .str ⟨#[c]⟩]) ∧ x.cps[i]? = some c, fun i _ => x.cps.size ≤ i⟩
def iEnS (ta : TA) : TI := fun σ H R => ta σ H fun vs H1 => ∃ x : Str, vs = [.str x] ∧ R (ItEnS x) H1
/-! the small term -/
def encD (x : Str) : List D := (x.cps.toList.zipIdx).map fun p => .tup [.int p.2, .str ⟨#[p.1]⟩]
section
variable {G : Gx} {w : Wd} {H : Hp}
end
section
variable {X : Cx} {G : Gx} {P : Pr} {pos : Pos} {elts : List Expr} {kk : Nat} {tpos : Pos}
end
section
variable {st : Sto} {X : Nat → D → Sto → Prop}
end
end PV

/-! part PV126 -/
/-! PV126: sorted(d) of a dict whose keys are tuples, the small term. -/
noncomputable section
namespace PV
open PySem PySem.W PySem.Spec PyProof.Rows L2 LamX NdefX
section
variable {G : Gx} {w : Wd} {H : Hp}
end
section
variable {X : Cx} {G : Gx} {P : Pr} {pos : Pos} {p : Expr} {ps : List Expr} {es : List E} {q : Pos}
@[simp] theorem wp_srtT {kvs : List (List Ky × D)} {k : Kd} {st : Sto} {X : Nat → D → Sto → Prop} {Q : KD → Sto → Prop} : Wp (biD .srtT [(k, .dit kvs)]) st Q X ↔ (walkB k && sortOk (kvs.map fun p => D.tup (p.1.map keyD))) = true ∧ Q (.fr 1, .lst (sortDs (kvs.map fun p => D.tup (p.1.map keyD)))) st := wp_ifno
end
end PV

/-! part PV127 -/
/-! PV127: sorted(d.items()) of a dict whose keys are tuples. -/
noncomputable section
namespace PV
open PySem PySem.W PySem.Spec PyProof.Rows L2 LamX NdefX RT
/-- the pairs of a dict with tuples for keys -/
def pairV (kvs : List (List Key × V)) (bs : List Addr) : List (List V) := ((bs.map V.ref).zip (kvs.map (·.2))).map fun p => [p.1, p.2]
section
variable {X : Cx} {pins : List (Addr × Obj)} {σ : L2.St} {H : Hp}
end
section
variable {G : Gx} {st : Sto}
end
section
variable {X : Cx} {G : Gx} {P : Pr} {pos : Pos} {e : Expr} {te : TE} {p apos cpos : Pos}
def tItemsT (te : TE) (R : List V → Hp → VK → Prop) : TE := fun σ H Q => te σ H fun x H1 => ∃ d kvs, x = .ref d ∧ Rd H1 d (.dT kvs) ∧ ∀ bs, IsKeys H1 kvs bs → ∀ as : List Addr, (∀ a ∈ as, H1 a = none) → as.Nodup → as.length = kvs.length → R (as.map V.ref) (layT as (pairV kvs bs) H1) Q
@[simp] theorem wp_srtIT {kvs : List (List Ky × D)} {k : Kd} {st : Sto} {X : Nat → D → Sto → Prop} {Q : KD → Sto → Prop} : Wp (biD .srtIT [(k, .dit kvs)]) st Q X ↔ (walkB k && sortOk (kvs.map fun p => D.tup [D.tup (p.1.map keyD), p.2])) = true ∧ Q (.fr 1, .lst (sortDs (kvs.map fun p => D.tup [D.tup (p.1.map keyD), p.2]))) st := wp_ifno
end
end PV

/-! part PV128 -/
/-! PV128: int(text). -/
noncomputable section
namespace PV
open PySem PySem.W PySem.Spec PyProof.Rows L2 LamX NdefX
section
variable {X : Cx} {G : Gx} {P : Pr} {pos : Pos} {p : Expr} {ps : List Expr} {es : List E} {q : Pos}
end
end PV

/-! part PV129 -/
/-! PV129: del d[k] on an own local dict whose keys are tuples. -/
noncomputable section
namespace RT
open PySem PySem.W PySem.Spec PyProof.Rows L2
section
variable {X : Cx} {pins : List (Addr × Obj)} {σ : L2.St} {H : Hp} {s : Shared} {a b : Addr} {kvs : List (List Key × V)} {k : List Key} {A : Around} {E : Value → Shared → Prop}
end
def sDDelT (td ty : TE) : TS := fun D σ H => td σ H fun x H1 => ty σ H1 fun y H2 => ∃ a kvs k b, x = .ref a ∧ H2 a = some (.dT kvs) ∧ y = .ref b ∧ H2 b = some (.tup (k.map kV)) ∧ (valV kvs k).isSome = true ∧ D.nx σ (upd H2 a (.dT (dropK kvs k)))
section
variable {X : Cx} {o i : Expr} {pos tpos : Pos} {td ty : TE}
end
end RT
namespace PV
open PySem PySem.W PySem.Spec PyProof.Rows L2 LamX NdefX RT
section
variable {X : Cx} {G : Gx} {P : Pr} {pos : Pos}
end
@[simp] theorem wp_ddelT {P : Pr} {ρ : Env} {st : Sto} {X : Nat → D → Sto → Prop} {Q : Fl × Env → Sto → Prop} {i : Nat} {k : E} : Wp (evS P (.ddelT i k) ρ) st Q X ↔ Wp (slotD ρ i) st (fun x s => Wp (ofO (ownT x)) s (fun kvs s => Wp (evE P k ρ) s (fun z s => Wp (ofO (keyTO z.2)) s (fun kk s => Wp (ofO (getK kk kvs)) s (fun _ s => Q (.nx, ρ.set i (some (1, .dit (delK kvs kk)))) s) X) X) X) X) X := by
  rw [evS]
  simp only [wp_bind, wp_pure]
end PV

/-! part PV130 -/
/-! PV130: an own exception's __init__ that says super().__init__(text) and stores one field, raw. -/
namespace BT
open PySem PySem.W PySem.Calls PyProof.Rows PySem.Spec

section
variable {prog : Program} {w : World} {A : Around} {E : Value → Shared → Prop} {h : Heap} {g : Array GenState} {d : Drawn} {t : Nat} {os : OsState}
/-- super() in a method -/
theorem sup_node {K : Frag} {body : List Stmt} {q : Str} {scope : Scope} {p0 p1 : Pos} {attr : Str} {whole : Sem Value} {fd : FuncData} {ar : Arg} {vs : Array Value} {file : Str} {tf : Tok} {oc ccl cl : Value} {od cdd cld : Option Addr} {osl ccs csl : Array (Option Value)} {cdD : ClassData} {L f cda cc x C D : Addr} {ox : Obj} {m mg mb : Str → Option Value} {Q : Value → Shared → Prop}
    (X : K.In h) (hns : h.Ns L m) (hg : h.Ns mainGlobals mg) (hb : h.Ns builtinsNs mb) (hbb : ∀ x : Str, x ≠ "__name__" → mb x = bootBuiltins x) (hsup : mg "super" = none)
    (hf : K.lookup f = some ⟨oc, od, .func fd, osl⟩) (hp : (fd.params.posonlyargs ++ fd.params.args).head? = some ar) (hv : m ar.arg = some (.ref x)) (hx : h.get? x = some ox) (hxc : ox.cls = .ref C) (hnc : ∀ c, ox.data ≠ .cls c)
    (hcode : K.lookup cda = some ⟨ccl, cdd, .fields vs, ccs⟩) (hvs : vs[2]? = some (.str file tf)) (hfile : ((prog.main.file : Str) == file) = true)
    (hcell : K.lookup cc = some ⟨cl, cld, .cell (some (.ref D)), csl⟩) (hD : clsIn K D = some cdD) (hsub : mroIn K C (.ref D) = some true)
    (hat : (attr == ("__class__" : Str)) = false) (hks : scope.names.lookup ("super" : Str) = some .globalImplicit) (hkc : scope.names.lookup ("__class__" : Str) = some .free) (hka : scope.names.lookup ar.arg = some .local) (hk : scope.kind = .function)
    (htop : (prog.main.scope.names.lookup ("super" : Str)).isSome = false)
    (hq : ∀ h', h'.get? h.objs.size = some (ks_superObj D x C) → (∀ b o, h.get? b = some o → h'.get? b = some o) → Q (.ref h.objs.size) ⟨h', g, d, t, os⟩) :
    _root_.PySem.wpAt (model prog w) A (.func body (ksEnv q scope L f (.ref cda) cc)) (attributeBase (.Call (.Name "super" p0) [] [] p1) attr (ksEnv q scope L f (.ref cda) cc) whole) Q E ⟨h, g, d, t, os⟩ := by
  obtain ⟨oD, hD1, hD2⟩ : ∃ oD, h.get? D = some oD ∧ oD.data = .cls cdD := by
    unfold clsIn at hD
    split at hD
    · rename_i c d cd' sl ho
      cases hD
      exact ⟨_, X _ _ ho, rfl⟩
    · cases hD
  refine ks_wpAt_super_base (env := ksEnv q scope L f (.ref cda) cc) hks hkc hat rfl (X _ _ hf) rfl hp rfl (X _ _ hcode) rfl hvs hfile htop ?_
  refine ks_loadName_global hk hks (loadGlobal_builtin (env := ksEnv q scope L f (.ref cda) cc) hg hsup hb ((hbb _ (by decide +kernel)).trans (by first | boot_by_name | rfl | kernel_rfl)) ⟨rfl, ?_⟩)
  refine wpAny_loadName_free hk hkc rfl ⟨_, X _ _ hcell, rfl⟩ ?_
  refine wpAny_loadName_local hk hka hns hv ?_
  refine ks_wpAny_isType_cls hD1 hD2 ⟨rfl, ?_⟩
  refine ks_wpAny_call_super hD1 hD2 hx hxc hnc (looks_mroIn X hsub) (fun h' e k => ?_)
  exact hq h' e k
end
section
variable {prog : Program} {w : World} {A : Around} {E : Value → Shared → Prop} {h : Heap} {g : Array GenState} {d : Drawn} {t : Nat} {os : OsState}
variable {nm q : Str} {C N : Addr} {bs bm : List Value} {hdct : Bool} {sn : List Str} {sub : List Value} {ab : Bool} {col : Option Bool} {dd : Option Addr} {k0 k1 k2 k3 k5 : Option Value}
theorem call_mw {u e t0 : Addr} {rest : List Value} {Q : Value → Shared → Prop}
    (hC : h.get? C = some (excClassObj nm q C N bs bm hdct sn sub ab col dd k0 k1 k2 k3 k5 "ValueError.__new__")) (he : h.get? e = some (HandSPX.excO C t0)) (hu : h.get? u = some (kxs_mw "ValueError.__init__" e)) (hrest : rest.length ≤ sizeLine)
    (hq : ∀ h' t1, (∀ b o, b ≠ e → h.get? b = some o → h'.get? b = some o) → h'.get? e = some (HandSPX.excO C t1) → Q .none ⟨h', g, d, t, os⟩) :
    wpAny (model prog w) A (call (.ref u) rest) Q E ⟨h, g, d, t, os⟩ := by
  refine wpAny_call (codeAny_of_tree ?_)
  show wpAny _ A.in1 (callAny (.ref u) ⟨rest, []⟩) _ _ _
  simp only [callAny]
  refine wpAny_bind (wpAny_load hu ?_)
  simp only [kxs_mw, show (Value.type "method-wrapper" == Value.type "method" || Value.type "method-wrapper" == Value.type "builtin_function_or_method" || Value.type "method-wrapper" == Value.type "method-wrapper") = true by decide, if_true]
  refine W.KFB.if_so (by decide) ?_
  refine wpAny_bind (ESX.check_bound F.excBase_ValueError hC he rfl ?_)
  refine wpAny_bind (wpAny_pure (wpAny_pure ?_))
  refine ⟨Code.quiet_builtin _ (by decide +kernel), codeAny_builtin F.excBase_ValueError.initEntry ?_⟩
  rw [Around.under_plainId F.excBase_ValueError.init.plain _]
  wp_walk
  refine hq _ h.objs.size (fun b o hb ho => ?_) ?_
  · rw [Heap.get?_update_other _ _ (Ne.symm hb)]
    exact Heap.get?_push_of_some _ ho
  · rw [Heap.get?_update_self _ (Heap.get?_push_of_some _ he) rfl]
    rfl
abbrev sr (x : Addr) (u : Value) : List (Str × Value) := [("self", .ref x), ("row", u)]
/-- __init__'s text -/
abbrev btBody (p0 p1 p2 p3 p4 p5 p6 p7 p8 p9 p10 : Pos) (j : Nat) : List Stmt :=
  [.Expr (.Call (.Attribute (.Call (.Name "super" p0) [] [] p1) "__init__" p2) [.Constant (.str "bad text") j p3] [] p4) p5,
   .Assign [.Attribute (.Name "self" p6) "row" p7] (.Name "row" p8) p9]
theorem bt_run {K : Frag} {name qual : Str} {params : Arguments} {p0 p1 p2 p3 p4 p5 p6 p7 p8 p9 p10 : Pos} {j : Nat} {scope : Scope} {dV kV doc pm ct oc ccl cl : Value} {an od cdd cld : Option Addr} {osl ccs csl : Array (Option Value)} {vs : Array Value} {file : Str} {tf : Tok} {f cc cda x t0 : Addr} {ar : Arg} {u : Value} {mg mb : Str → Option Value} {R : Result → Shared → Prop} {args : Args}
    (X : K.In h) (hg : h.Ns mainGlobals mg) (hb : h.Ns builtinsNs mb) (hbb : ∀ x : Str, x ≠ "__name__" → mb x = bootBuiltins x) (hlim : h.NoLimit) (hsup : mg "super" = none)
    (hf : K.lookup f = some ⟨oc, od, .func (ksFn name qual params (btBody p0 p1 p2 p3 p4 p5 p6 p7 p8 p9 p10 j) scope dV kV doc pm an (.ref cda) ct cc), osl⟩) (hcd : codeIn K (.ref cda) qual = true)
    (hcode : K.lookup cda = some ⟨ccl, cdd, .fields vs, ccs⟩) (hvs : vs[2]? = some (.str file tf)) (hfile : ((prog.main.file : Str) == file) = true) (htop : (prog.main.scope.names.lookup ("super" : Str)).isSome = false)
    (hcell : K.lookup cc = some ⟨cl, cld, .cell (some (.ref C)), csl⟩)
    (hC : K.lookup C = some (excClassObj nm q C N bs bm true sn sub ab col dd k0 k1 k2 k3 k5 "ValueError.__new__")) (hbm : HandSPX.refsVE bm = true)
    (hal : alongIn K "__init__" bm = some (some (.builtin "ValueError.__init__"))) (hop : nsIn K cStatics "thirdparty.any" = some none)
    (hsa : findIn K (.ref C) "__setattr__" = some (some (.builtin "object.__setattr__"))) (hro : findIn K (.ref C) "row" = some none) (hve : subIn K (.ref C) (.type "ValueError") = some true) (hmr : mroIn K C (.ref C) = some true)
    (hp : (params.posonlyargs ++ params.args).head? = some ar) (har : ar.arg = "self") (hks : scope.names.lookup ("super" : Str) = some .globalImplicit) (hkc : scope.names.lookup ("__class__" : Str) = some .free) (hka : scope.names.lookup ("self" : Str) = some .local)
    (hkr : scope.names.lookup ("row" : Str) = some .local) (hk : scope.kind = .function) (hco : scope.isCoroutine = false) (hgen : scope.isGenerator = false) (hncell : ∀ x ∈ scope.names, x.2 ≠ .cell) (hroom : A.depth < recursionLimit)
    (hx : h.get? x = some (HandSPX.excO C t0)) (hxK : K.lookup x = none) (hbind : BindsTo ⟨h, g, d, t, os⟩ (ksFn name qual params (btBody p0 p1 p2 p3 p4 p5 p6 p7 p8 p9 p10 j) scope dV kV doc pm an (.ref cda) ct cc) args (sr x u))
    (hev : ∀ L, ∃ pl : Sem Bool, eval (.Call (.Attribute (.Call (.Name "super" p0) [] [] p1) "__init__" p2) [.Constant (.str "bad text") j p3] [] p4) (ksEnv qual scope L f (.ref cda) cc) = (do
      let ov ← attributeBase (.Call (.Name "super" p0) [] [] p1) "__init__" (ksEnv qual scope L f (.ref cda) cc) (eval (.Call (.Name "super" p0) [] [] p1) (ksEnv qual scope L f (.ref cda) cc))
      standAt p2.atName
      let (fx, first) ← holding [ov] (getMethod ov "__init__" pl)
      callWith p4 fx first (backTo p4 (starEach [.Constant (.str "bad text") j p3] (ksEnv qual scope L f (.ref cda) cc))) []))
    (hsw1 : ∀ L, swapsWith (.Call (.Attribute (.Call (.Name "super" p0) [] [] p1) "__init__" p2) [.Constant (.str "bad text") j p3] [] p4) none p5.line (ksEnv qual scope L f (.ref cda) cc) = pure false)
    (hsw2 : ∀ L, swapsWith (.Name "row" p8) (some (.Attribute (.Name "self" p6) "row" p7)) p9.line (ksEnv qual scope L f (.ref cda) cc) = pure false)
    (hq : ∀ h' t' dx t1, (∀ b o, b ≠ x → h.get? b = some o → h'.get? b = some o) → h.objs.size ≤ dx → dx ≠ x → h'.get? x = some { cls := .ref C, dict := some dx, data := .fields #[.ref t1, .none, .none, .none, .bool false, .none] } →
      h'.Ns1 dx (fun y => if y = "row" then some u else none) → R (.ok (.ret .none)) ⟨h', g, d, t', os⟩) :
    codeAny (model prog w) A (.call (.ref f) args) R ⟨h, g, d, t, os⟩ := by
  have hcl : clsIn K C = some { name := nm, bases := bs, mro := .ref C :: bm, ns := N, qualname := q, hasDict := true, slotNames := sn, subclasses := sub, abstract := ab, collection := col, hasDel := false } := by unfold clsIn; rw [hC] <;> rfl
  refine ks_codeAny_call_defAt (fd := ksFn name qual params (btBody p0 p1 p2 p3 p4 p5 p6 p7 p8 p9 p10 j) scope dV kV doc pm an (.ref cda) ct cc) hroom (X _ _ hf) rfl hlim (codeRec_of X hcd) rfl hbind hncell (fun y hy => ?_) (fun h1 hns k1 => ?_) hco hgen hk
  · rcases List.mem_cons.mp hy with rfl | hy
    · exact hka
    · rcases List.mem_cons.mp hy with rfl | hy
      · exact hkr
      · cases hy
  · have X1 : K.In h1 := X.keeps k1
    have hL : h.objs.size ≠ x := Nat.ne_of_gt (Heap.lt_size hx)
    have hm1 : (fun y : Str => List.lookup y (sr x u).reverse) ar.arg = some (.ref x) := by rw [har]; rfl
    obtain ⟨pl, hev⟩ := hev h.objs.size
    refine ks_wpAt_execs_cons (ks_wpAt_Expr_any (ks_wpAt_MethodCall (pl := pl) (he := hev) (sup_node (cdD := _) (C := C) (D := C) X1 hns (hg.keeps k1) (hb.keeps k1) hbb hsup hf hp hm1 (k1 _ _ hx) rfl (fun c z => by cases z) hcode hvs hfile hcell hcl hmr (by decide) hks hkc (by rw [har]; exact hka) hk htop fun h2 hso k2 => ?_)) (by unfold interactive; simp [callEnv, newEnv, hk]) (hsw1 _))
    have X2 : K.In h2 := X1.keeps k2
    have x2 : h2.get? x = some (HandSPX.excO C t0) := k2 _ _ (k1 _ _ hx)
    refine kxs_getMethod kxs_ValueError hso (looks_opaque X2 hop) (l₀ := .ref C :: bm) (fun A' Q' E' s' k q => wpAny_bind ((looks_clsIn X2 hcl) A' _ E' s' k (wpAny_pure q))) (ESX.drop_own C bm) X2 hal (fun A' Q' E' s' k q => ?_) (fun z => ?_) (by decide) ?_
    · have I : InstAt h2 x (HandSPX.excO C t0) C none := ⟨x2, rfl, rfl, trivial⟩
      have l : PySem.W.Looks (model prog w) h2 (isInstance (.ref x) (.type "ValueError")) true := I.type.andThen (PySem.W.looks_subIn X2 hve)
      exact l A' Q' E' s' k q
    · subst z
      have := X2 _ _ hC
      rw [x2] at this
      cases this
    refine kxs_callWith (i := "ValueError.__init__") (x := x) (by rfl) (evalArgs_plain (Calls.spliced_cons (wpAny_Constant_str (k := j) (pos := p3) (Calls.spliced_nil ?_))))
    have k3 : ∀ b o, h2.get? b = some o → (h2.push (kxs_mw "ValueError.__init__" x)).get? b = some o := fun b o e => Heap.get?_push_of_some _ e
    have hu : (h2.push (kxs_mw "ValueError.__init__" x)).get? h2.objs.size = some (kxs_mw "ValueError.__init__" x) := Heap.get?_push_at rfl rfl
    refine ⟨hu, ?_⟩
    refine call_mw (X2.keeps k3 _ _ hC) (k3 _ _ x2) hu (by rw [sizeLine_eq]; show (1:Nat) ≤ 16777216; omega) fun h4 t1 k4 x4 => ?_
    have kk : ∀ b o, b ≠ x → h1.get? b = some o → h4.get? b = some o := fun b o hb e => k4 b o hb (k3 _ _ (k2 _ _ e))
    have nx : ∀ {b : Addr} {o : Obj}, K.lookup b = some o → b ≠ x := fun {b o} e z => by
      rw [z, hxK] at e
      cases e
    have X4 : K.In h4 := fun b o e => kk b o (nx e) (X1 b o e)
    have ns4 : h4.Ns h.objs.size (fun y => List.lookup y (sr x u).reverse) := by
      obtain ⟨oL, es, ep, hl, r⟩ := hns
      exact ⟨oL, es, ep, kk _ _ hL hl, r⟩
    refine ks_wpAt_execs_cons (wpAt_of_wpAny (plainObj_wpAny_Assign_Attribute ?_ (hsw2 _)))
    refine wpAny_Name (wpAny_loadName_local hk hkr ns4 (by rfl) ?_) (by decide)
    refine wpAny_Name (wpAny_loadName_local hk hka ns4 (by rfl) ?_) (by decide)
    refine PySem.W.set_plain X4 (ox := { cls := .ref C, dict := none, data := .fields #[.ref t1, .none, .none, .none, .bool false, .none] }) (od := none) ⟨x4, rfl, rfl, trivial⟩ hsa ?_
    refine PySem.HandSPX.exc_osa X4 x4 hcl (show PySem.HandSPX.refsVE (.ref C :: bm) = true from hbm) rfl hro (fun h' tk' dx k dn dne hx' hn => ?_)
    show _root_.PySem.wpAt _ _ _ (execs [] _) _ _ _
    refine wpAt_of_wpAny (wpAny_execs_nil ?_)
    have kz : ∀ b o, b ≠ x → h.get? b = some o → h'.get? b = some o := fun b o hb e => k b o hb (kk b o hb (k1 b o e))
    have sz : h.objs.size ≤ h4.objs.size := by
      have e1 : ∃ o, h4.get? h.objs.size = some o := by
        obtain ⟨oL, es, ep, hl, r⟩ := ns4
        exact ⟨_, hl⟩
      obtain ⟨o, e1⟩ := e1
      exact Nat.le_of_lt (Heap.lt_size e1)
    exact hq h' tk' dx t1 kz (Nat.le_trans sz dn) dne hx' hn
end
end BT

/-! part PV131 -/
/-! PV131: raise of such an exception. -/
namespace BT
open PySem PySem.W PySem.Calls PyProof.Rows PySem.Spec L2

/-- what is told of the class and of its __init__ -/
structure BtC (prog : Program) (K : Frag) (C f : Addr) (fd : FuncData) : Prop where
  ex : ∃ (name qual : Str) (params : Arguments) (p0 p1 p2 p3 p4 p5 p6 p7 p8 p9 p10 : Pos) (j : Nat) (scope : Scope) (dV kV doc pm ct : Value) (an : Option Addr) (cc cda : Addr) (ar : Arg),
    fd = ksFn name qual params (btBody p0 p1 p2 p3 p4 p5 p6 p7 p8 p9 p10 j) scope dV kV doc pm an (.ref cda) ct cc ∧ (∃ oc od osl, K.lookup f = some ⟨oc, od, .func fd, osl⟩) ∧ codeIn K (.ref cda) qual = true ∧
    (∃ ccl cdd vs ccs file tf, K.lookup cda = some ⟨ccl, cdd, .fields vs, ccs⟩ ∧ vs[2]? = some (.str file tf) ∧ ((prog.main.file : Str) == file) = true) ∧ (∃ cl cld csl, K.lookup cc = some ⟨cl, cld, .cell (some (.ref C)), csl⟩) ∧
    (params.posonlyargs ++ params.args).head? = some ar ∧ ar.arg = "self" ∧ scope.names.lookup ("super" : Str) = some .globalImplicit ∧ scope.names.lookup ("__class__" : Str) = some .free ∧ scope.names.lookup ("self" : Str) = some .local ∧ scope.names.lookup ("row" : Str) = some .local ∧
    scope.kind = .function ∧ scope.isCoroutine = false ∧ scope.isGenerator = false ∧ (∀ x ∈ scope.names, x.2 ≠ .cell) ∧
    (∀ L, ∃ pl : Sem Bool, eval (.Call (.Attribute (.Call (.Name "super" p0) [] [] p1) "__init__" p2) [.Constant (.str "bad text") j p3] [] p4) (ksEnv qual scope L f (.ref cda) cc) = (do
      let ov ← attributeBase (.Call (.Name "super" p0) [] [] p1) "__init__" (ksEnv qual scope L f (.ref cda) cc) (eval (.Call (.Name "super" p0) [] [] p1) (ksEnv qual scope L f (.ref cda) cc))
      standAt p2.atName
      let (fx, first) ← holding [ov] (getMethod ov "__init__" pl)
      callWith p4 fx first (backTo p4 (starEach [.Constant (.str "bad text") j p3] (ksEnv qual scope L f (.ref cda) cc))) [])) ∧
    (∀ L, swapsWith (.Call (.Attribute (.Call (.Name "super" p0) [] [] p1) "__init__" p2) [.Constant (.str "bad text") j p3] [] p4) none p5.line (ksEnv qual scope L f (.ref cda) cc) = pure false) ∧
    (∀ L, swapsWith (.Name "row" p8) (some (.Attribute (.Name "self" p6) "row" p7)) p9.line (ksEnv qual scope L f (.ref cda) cc) = pure false)
  cls : OexC K C
  iC : findIn K (.ref C) "__init__" = some (some (.ref f))
  tI : typeIn K (.ref f) = some (.type "function")
  bind : L2.Binds K fd ["self", "row"] []
  htop : (prog.main.scope.names.lookup ("super" : Str)).isSome = false
  hsup : nsIn K mainGlobals "super" = some none
  hop : nsIn K cStatics "thirdparty.any" = some none
  hal : ks_superIn K C C "__init__" = some (some (.builtin "ValueError.__init__"))
  hro : findIn K (.ref C) "row" = some none
  hve : subIn K (.ref C) (.type "ValueError") = some true
  hmr : mroIn K C (.ref C) = some true
structure BtX (prog : Program) (K : Frag) (C : Addr) : Prop where
  go : ∃ f fd, BtC prog K C f fd
  xf : XfC K C
  no : findIn K (.ref C) "row" = some none
  em : exmOne K (.ref C) (.ref C) = some true
def spBT (C : Addr) : Sp := fun vs H Q _ => ∃ a y, vs = [V.ref a, y] ∧ H a = some (exo a C none) ∧ ∀ dx, H dx = none → dx ≠ a → Q .non (upd (upd H dx (exd dx [(("row" : Str), y)])) a (exo a C (some dx)))
theorem bt_core {prog : Program} {w : World} {K : PySem.W.Frag} {mg : Str → Option Value} {base : Heap} {CX : CXT} {C f : Addr} {fd : FuncData} (B : BtC prog K C f fd) {A : Around} {outer : List PySem.Env} {s : Shared} {H : Hp} {args : Args} {us : List Value} {vs : List V} {Q : VK} {E : XK}
    (hdp : A.depth < recursionLimit) (e0 : Env0 prog w K mg base A outer s H) (hb : BindsTo s fd args ((["self", "row"] : List Str).zip us)) (r : Vals vs us) (hsp : spBT C vs H Q E) : codeAny (model prog w) A (.call (.ref f) args) (CR CX outer prog w H s Q E) s := by
  obtain ⟨a, y, rfl, ea, hq⟩ := hsp
  obtain ⟨name, qual, params, p0, p1, p2, p3, p4, p5, p6, p7, p8, p9, p10, j, scope, dV, kV, doc, pm, ct, an, cc, cda, ar, rfl, ⟨oc, od, osl, hf⟩, hcd, ⟨ccl, cdd, vs, ccs, file, tf, hcode, hvs, hfile⟩, ⟨cl, cld, csl, hcell⟩, hp, har, hks, hkc, hka, hkr, hk, hco, hgen, hnc, hev, hsw1, hsw2⟩ := B.ex
  obtain ⟨nm, q, N, bs, bm, sn, sub, ab, col, dd, k0, k1, k2, k3, k5, hC, hbm⟩ := B.cls.cls
  have hcl : clsIn K C = some { name := nm, bases := bs, mro := .ref C :: bm, ns := N, qualname := q, hasDict := true, slotNames := sn, subclasses := sub, abstract := ab, collection := col, hasDel := false } := by unfold clsIn; rw [hC] <;> rfl
  have hal : alongIn K "__init__" bm = some (some (.builtin "ValueError.__init__")) := by
    have e := B.hal
    unfold ks_superIn at e
    rw [hcl, Option.bind_some] at e
    rw [ESX.drop_own] at e
    exact e
  cases r with
  | @cons _ u0 _ ur ra rr =>
    cases rr with
    | @cons _ u _ ur2 ry rr2 =>
      cases rr2
      obtain rfl : u0 = Value.ref a := ra
      have keep : ∀ b o, base.get? b = some o → s.heap.get? b = some o := fun b o e => (e0.bs b o e).1
      have KX : K.In s.heap := e0.mod.kin.keeps keep
      obtain ⟨mb, nb, hbb⟩ := e0.mod.blt
      obtain ⟨t0, ho⟩ := exo_at e0.hok ea
      have hxK : K.lookup a = none := by
        cases z : K.lookup a with
        | none => rfl
        | some o =>
          have e1 := (e0.bs a o (e0.mod.kin a o z)).2
          rw [ea] at e1
          cases e1
      obtain ⟨hh, gg, dd', tt, oo⟩ := s
      refine bt_run (mg := mg) (mb := mb) (hq := fun h' t' dx t1 kk dn dne hx hn => ?_) KX (e0.mod.glob.keeps keep) (nb.keeps keep) hbb (e0.mod.nolimit.keeps keep) (mg_none_of e0.mod.kin e0.mod.glob B.hsup) hf hcd hcode hvs hfile B.htop hcell hC hbm hal B.hop B.cls.sa B.hro B.hve B.hmr hp har hks hkc hka hkr hk hco hgen hnc hdp ho hxK hb hev hsw1 hsw2
      have hnd : H dx = none := e0.hok.fresh dn
      have nd : ∀ {b : Addr} {o : Obj}, hh.get? b = some o → b ≠ dx := fun {b o} q => Nat.ne_of_lt (Nat.lt_of_lt_of_le (Heap.lt_size q) dn)
      have na : ∀ {b : Addr}, H b = none → b ≠ a := fun {b} n z => by
        rw [z, ea] at n
        cases n
      refine ⟨.non, _, rfl, e0.bare, ?_, fun b o q => ?_, rfl, hq dx hnd dne⟩
      · exact {
          keep := fun b o q n _ _ => kk b o (na n) q
          slot := fun b o q n _ _ => ⟨o.slots, kk b o (na n) q⟩
          free := fun b o q n _ => by rw [upd_ne (na n), upd_ne (nd q)]; exact n
          there := fun b o q _ => by
            by_cases hb : b = a
            · exact ⟨_, by rw [hb]; exact hx⟩
            · exact ⟨o, kk b o hb q⟩
          tups := fun b xs q => by rw [upd_ne (at_ne ea q exo_tup), upd_ne (ne_of_none q hnd)]; exact q
          frzs := fun b o v q => by rw [upd_ne (at_ne ea q exo_frz), upd_ne (ne_of_none q hnd)]; exact q
          tbls := fun b ps q => ⟨#[], by rw [upd_ne (at_ne ea q exo_tbl), upd_ne (ne_of_none q hnd), q]; simp⟩ }
      · by_cases hb : b = a
        · subst hb
          rw [upd_same] at q
          cases q
          exact exo_ok hx
        · rw [upd_ne hb] at q
          by_cases hd : b = dx
          · subst hd
            rw [upd_same] at q
            cases q
            exact exd_ok hn (relO_put (fs := []) ry fun g => True.intro)
          · rw [upd_ne hd] at q
            exact (e0.hok b o q).stay (fun c v hc z => kk c v (by
                rcases hc with hc | hc
                · rw [hc]
                  exact hb
                · exact at_ne ea hc exo_own) z)
              (fun c hc => by rw [upd_ne (at_ne ea hc exo_own), upd_ne (ne_of_none hc hnd)]; exact hc) (fun c xs hc => by rw [upd_ne (at_ne ea hc exo_tup), upd_ne (ne_of_none hc hnd)]; exact hc)
theorem bt_fn {prog : Program} {w : World} {K : PySem.W.Frag} {mg : Str → Option Value} {base : Heap} {CX : CXT} {k : Nat} {C f : Addr} {fd : FuncData} (B : BtC prog K C f fd) : FnOk prog w K mg base CX (k + 1) f fd ["self", "row"] (spBT C) := by
  refine ⟨fun vs H Q E h => ?_, fun A outer s H args us vs Q E hr e0 hb r hsp => bt_core B hr.depth e0 hb r hsp⟩
  obtain ⟨a, y, rfl, _⟩ := h
  rfl
/-- C(e, ..): its context is None -/
theorem pmkN_oex {X : Cx} {CX : CXT} {x : Str} {e : Expr} {es : List Expr} {ta : TA} {p pos : Pos} {C fI : Addr} {k : Nat} {fd : FuncData} {ps : List Str} {sp : Sp} (T : OexC X.K C) (iC : PySem.W.findIn X.K (.ref C) "__init__" = some (some (.ref fI))) (tI : PySem.W.typeIn X.K (.ref fI) = some (.type "function"))
    (F1 : FnOk X.prog X.w X.K X.mg X.base CX k fI fd ps sp) (hr : Room (k + 1) X.A) (hb : Binds X.K fd ps []) (hx : Passes CX X (fun _ _ _ => False)) (hg : Gl X x) (hm : X.mg x = some (.ref C)) (ha : PA X (e :: es) ta)
    (hdb : (x == ("__debug__" : Str)) = false := by decide) (he : starEach (e :: es) X.env = (false, eval e X.env) :: starEach es X.env := by rfl) (hpl : (backTo pos (starEach es X.env)).any (·.1) = false := by rfl) :
    L2N.PMk X (.Call (.Name x p) (e :: es) [] pos) (tMkO C sp [] ta) := by
  intro pins s σ H Q I h
  obtain ⟨nm, q, N, bs, bm, sn, sub, ab, col, dd, k0, k1, k2, k3, k5, hC, hbm⟩ := T.cls
  refine wpAny_Call_Name_kw (ld_glob I hg hm ?_ hdb)
  refine PySem.W.callWith_K (h₀ := X.base) I.ok.mod.kin T.kC (thn (ha.run pos pins s σ H _ I h) fun us s1 ⟨vs, H1, I1, r1, hz, q1⟩ => ⟨I1.kIn, ?_⟩) he hpl
  show wpAny _ _ (call (.ref C) us) _ _ _
  obtain ⟨hp, g, dr, tk, os⟩ := s1
  have hsz : hp.objs.size ≤ hp.objs.size + 1 := Nat.le_succ _
  have hn : H1 (hp.objs.size + 1) = none := I1.hok.fresh hsz
  have hq := q1 (hp.objs.size + 1) hn
  rw [List.append_nil] at hq
  have kk : ∀ b o, hp.get? b = some o → ((hp.push (PySem.W.kdv_tup us)).push (PySem.HandSPX.excO C hp.objs.size)).get? b = some o := fun b o e => Heap.get?_push_of_some _ (Heap.get?_push_of_some _ e)
  have hget : ((hp.push (PySem.W.kdv_tup us)).push (PySem.HandSPX.excO C hp.objs.size)).get? (hp.objs.size + 1) = some (PySem.HandSPX.excO C hp.objs.size) := by heap_get
  have I2 : Inv X pins σ (upd H1 (hp.objs.size + 1) (exo (hp.objs.size + 1) C none)) ⟨(hp.push (PySem.W.kdv_tup us)).push (PySem.HandSPX.excO C hp.objs.size), g, dr, tk, os⟩ :=
    I1.laid (t' := tk) (a := hp.objs.size + 1) (o := exo (hp.objs.size + 1) C none) (h' := (hp.push (PySem.W.kdv_tup us)).push (PySem.HandSPX.excO C hp.objs.size)) kk hsz (exo_ok hget)
  have r2 : Vals (V.ref (hp.objs.size + 1) :: vs) (Value.ref (hp.objs.size + 1) :: us) := .cons rfl r1
  have hl : (Value.ref (hp.objs.size + 1) :: us ++ []).length = ps.length := by
    have e := r2.length
    rw [F1.len _ _ _ _ hq] at e
    rw [List.append_nil]
    exact e.symm
  have hus : us.length ≤ sizeLine := by
    rw [← Paired.length r1, sizeLine_eq]
    omega
  have b2 := hb _ (Value.ref (hp.objs.size + 1) :: us) I2.kIn hl
  rw [List.append_nil] at b2
  refine wpAny_call (PySem.HandSPX.call_own F.excBase_ValueError (fun Y => PySem.HandSPX.refsVE_contains Y bm hbm) (I1.kIn _ _ hC) (PySem.W.looks_findIn I1.kIn iC) (fun self => PySem.W.bind_fn I1.kIn self tI) hus
    (codeAny_mono (F1.run _ X.stack _ _ ⟨Value.ref (hp.objs.size + 1) :: us, []⟩ (Value.ref (hp.objs.size + 1) :: us) _ _ (fun _ _ _ => False) (hr.make C us []) (I2.env0.make C us []) b2 r2 hq) fun r s' hq' => ?_))
  cases r with
  | error er => exact hx pins σ _ _ er s' I2 hq'
  | ok fl =>
    cases fl with
    | ret u =>
      obtain ⟨v, H2, os2, bare2, un2, hok2, rv, ev, d, fs, ea, ed, hd1, q2⟩ := hq'
      subst ev
      obtain ⟨h2, g2, d2, t2, os'⟩ := s'
      obtain ⟨t0, G, J, kG, ge, hoe, na⟩ := mk_end0 (d2 := d2) (t2 := t2) I1 hsz kk un2 hok2 os2 bare2 ea ed hd1
      refine ⟨rv, ⟨hp.objs.size + 1, _, _, ⟨G, g2, d2, t2, os'⟩, _, .ref C, some d, rfl, J, kG, ge, hoe, ⟨rfl, rfl, fun vs hv => ?_⟩, rfl, rfl, na, rfl, bare2, raises_own T.exC T.tyC, q2⟩⟩
      cases hv
      rfl
    | next => exact False.elim hq'
    | brk => exact False.elim hq'
    | cont => exact False.elim hq'
end BT
namespace PV
open PySem L2 LamX NdefX
/-- raise C(i), C's own __init__ keeping it as the row -/
noncomputable def raiseBM (c : Nat) (x : KD) : M (Fl × Env) := match x.2 with
  | .int i => raise c (.int i)
  | _ => no
noncomputable def raiseB (c : Nat) (e : E) : S := .sem fun P ρ => do
  let x ← evE P e ρ
  raiseBM c x
section
variable {X : Cx} {G : Gx} {P : Pr} {pos : Pos}
theorem ds_raiseB {c k : Nat} {x : Str} {pe : Expr} {e : PV.E} {p pos2 : Pos} (hc : X.calm = true) (B : BT.BtX X.prog X.K (G.ex c)) (hr : Room (k + 1 + 1) X.A) (hg : Gl X x) (hm : X.mg x = some (.ref (G.ex c))) (h : DE X G P pe e) (hdb : (x == ("__debug__" : Str)) = false := by decide)
    (he : starEach [pe] X.env = (false, eval pe X.env) :: starEach [] X.env := by rfl) (hpl : (backTo pos (starEach [] X.env)).any (·.1) = false := by rfl) (hpo : PassesOwn (model X.prog X.w) X.A X.env X.xe := by exact passes_of rfl) :
    DS X G P (.Raise (some (.Call (.Name x p) [pe] [] pos)) none pos2) (raiseB c e) := fun W w0 H0 wL HL tk => by
  obtain ⟨f, fd, B⟩ := B.go
  refine ims (L2N.ps_raise hc tk.nn (BT.pmkN_oex B.cls B.iC B.tI (BT.bt_fn (CX := L2.CX X.prog X.w) (k := k) B) hr B.bind (passL) hg hm (pa_cons (h W tk) pa_nil he) hdb he hpl)) fun E σ H ⟨w, ρ, Os, st, a, o⟩ => ?_
  unfold raiseB at o
  rw [evS] at o
  refine tE_S a o fun x st1 v w1 H1 a1 p1 k1 o1 => ?_
  obtain ⟨kd, d⟩ := x
  cases d with
  | int i =>
    have ev : v = .int i := k1.int
    subst ev
    refine ⟨by show (1 : Nat) ≤ 1000; omega, fun b hb => ⟨b, .int i, rfl, upd_same, fun dx hd ne => ⟨rfl, dx, [(("row" : Str), .int i)], upd_same, by rw [upd_ne ne, upd_same], ?_, ?_⟩⟩⟩
    · rw [upd_ne ne] at hd
      exact hd
    · rw [upd_ne ne] at hd
      have e : upd (del (upd (upd (upd H1 b (exo b (G.ex c) none)) dx (exd dx [(("row" : Str), .int i)])) b (exo b (G.ex c) (some dx))) b) dx (.xd [(("row" : Str), .int i)]) = upd H1 dx (.xd [(("row" : Str), .int i)]) := by
        funext z
        by_cases h1 : z = dx
        · subst h1; rw [upd_same, upd_same]
        · rw [upd_ne h1, upd_ne h1]
          by_cases h2 : z = b
          · subst h2; rw [del_same, hb]
          · rw [del_ne h2, upd_ne h2, upd_ne h1, upd_ne h2]
      rw [e]
      have p2 : Po w1 H1 w1 (upd H1 dx (.xd [(("row" : Str), .int i)])) := (Po.refl w1 H1).new hd
      exact o1 (some dx) σ w1 _ (a1.po.trans p2) (a1.mo.trans (p2.mo a1.g.s.wf)) (a1.g.s.new hd) (.inr ⟨dx, .int i, rfl, upd_same, .int i⟩)
  | _ => exact o1.elim
end
end PV

/-! part PV132 -/
/-! PV132: try: e except C: raise B(r); try: e except C as n: return n.row. -/
noncomputable section
namespace PV
open PySem PySem.W PySem.Spec PyProof.Rows L2 LamX NdefX
/-- the same program; what leaves has no context -/
abbrev Pr.up (P : Pr) : Pr := { P with nm := 1 }
def tryRaiseM (cc cb : Nat) (m h : M KD) (ρ : Env) : M (Fl × Env) := fun s => match m s with
  | .ok _ s' => .ok (.nx, ρ) s'
  | .ex c _ s' => if c = cc then (h >>= raiseBM cb) s' else .no
  | .no => .no
def tryRaise (cc : Nat) (e : E) (cb : Nat) (r : E) : S := .sem fun P ρ => tryRaiseM cc cb (evE P.up e ρ) (evE P r ρ) ρ
def tryRowM (cc i : Nat) (m : M KD) (ρ : Env) : M (Fl × Env) := fun s => match m s with
  | .ok _ s' => .ok (.nx, ρ) s'
  | .ex c (.int j) s' => if c = cc ∧ i < ρ.length then .ok (.rt (.int j), ρ) s' else .no
  | _ => .no
def tryRow (cc i : Nat) (e : E) : S := .sem fun P ρ => tryRowM cc i (evE P e ρ) ρ
section
variable {X : Cx} {G : Gx} {P : Pr} {pos : Pos} {W : WX} {w0 w wL : Wd} {H0 H HL : Hp} {σ : L2.St} {ρ : Env} {Os : List (List Addr)} {st : Sto} {E : Ends}
theorem SL.lens : ∀ {σ : L2.St} {ρ : Env} {Os : List (List Addr)}, SL G w H σ ρ Os → σ.length = ρ.length
  | _, _, _, .nil => rfl
  | _, _, _, .no h => congrArg Nat.succ (SL.lens h)
  | _, _, _, .so _ h => congrArg Nat.succ (SL.lens h)
end
/-! in plain terms -/
section
variable {P : Pr} {ρ : Env} {st : Sto} {X : Nat → D → Sto → Prop} {Q : Fl × Env → Sto → Prop}
@[simp] theorem wp_raiseB {c : Nat} {e : E} : Wp (evS P (raiseB c e) ρ) st Q X ↔ Wp (evE P e ρ) st (fun x s => Wp (raiseBM c x) s Q X) X := by
  unfold raiseB
  rw [evS]
  simp only [wp_bind]
@[simp] theorem wp_raiseBM {c : Nat} {k : Kd} {i : Int} : Wp (raiseBM c (k, .int i)) st Q X ↔ X c (.int i) st := Iff.rfl
theorem wp_tryRaiseM {cc cb : Nat} {m h : M KD} : Wp (tryRaiseM cc cb m h ρ) st Q X ↔ Wp m st (fun _ s => Q (.nx, ρ) s) (fun c _ s => c = cc ∧ Wp h s (fun x s => Wp (raiseBM cb x) s Q X) X) := by
  have e : ∀ s, Wp (h >>= raiseBM cb) s Q X ↔ Wp h s (fun x s => Wp (raiseBM cb x) s Q X) X := fun s => wp_bind
  unfold Wp tryRaiseM at *
  cases m st with
  | ok a s => rfl
  | ex c p s =>
    dsimp only
    by_cases hc : c = cc
    · rw [if_pos hc]
      simp only [hc, true_and]
      exact e s
    · simp [hc]
  | no => rfl
@[simp] theorem wp_tryRaise {cc cb : Nat} {e r : E} : Wp (evS P (tryRaise cc e cb r) ρ) st Q X ↔ Wp (evE P.up e ρ) st (fun _ s => Q (.nx, ρ) s) (fun c _ s => c = cc ∧ Wp (evE P r ρ) s (fun x s => Wp (raiseBM cb x) s Q X) X) := by
  unfold tryRaise
  rw [evS, wp_tryRaiseM]
def isIntD : D → Option Int
  | .int j => some j
  | _ => none
end
end PV

/-! part PV133 -/
/-! PV133: text.split(text). -/
noncomputable section
namespace PV
open PySem PySem.W PySem.Spec PyProof.Rows L2 LamX NdefX
def splitD (x y : KD) : M KD := match x.2, y.2 with
  | .str a, .str b => if b.length ≠ 0 ∧ a.length ≤ 10000000 then pure (.an, .lst ((Txt.split a b).map D.str)) else no
  | _, _ => no
def splitE (o e : E) : E := .sem fun P ρ => evE P o ρ >>= fun x => if okM .join x.2 then evE P e ρ >>= fun y => splitD x y else no
theorem frs_strsM {G : Gx} {w : Wd} {H : Hp} : ∀ ys : List Str, FRs G w H (ys.map D.str) (ys.map V.str)
  | [] => .nil
  | y :: ys => .cons rfl (.str y) (frs_strsM ys)
section
variable {X : Cx} {G : Gx} {P : Pr}
theorem de_split {po pe : Expr} {o e : E} {apos cpos : Pos} (ho : DE X G P po o) (he : DE X G P pe e)
    (hs : starEach [pe] X.env = [(false, eval pe X.env)] := by rfl) (hbase : attributeBase po "split" X.env (eval po X.env) = eval po X.env := by rfl) (hline : (apos.endLine == cpos.line) = true := by rfl) :
    DE X G P (.Call (.Attribute po "split" apos) [pe] [] cpos) (splitE o e) := fun W tk => by
  refine imE (pe_split (ho W tk) (he W tk) hs hbase hline) fun σ H Q ⟨w, ρ, Os, st, g, ot⟩ => ?_
  unfold splitE at ot
  rw [evE] at ot
  refine tE_bind g (Po.refl _ _) ot fun x st1 v w1 H1 g1 p1 k1 o1 => ?_
  obtain ⟨c0, o1⟩ := Out.ifno o1
  obtain ⟨kx, dx⟩ := x
  cases dx with
  | str a =>
    obtain rfl := k1.str
    refine ⟨⟨a, rfl⟩, tE_bind g1 p1 o1 fun y st2 u w2 H2 g2 p2 k2 o2 => ?_⟩
    obtain ⟨ky, dy⟩ := y
    cases dy with
    | str b =>
      obtain rfl := k2.str
      unfold splitD at o2
      have o3 : Out G (KR G Os) w H ((if b.length ≠ 0 ∧ a.length ≤ 10000000 then pure (Kd.an, D.lst ((Txt.split a b).map D.str)) else no : M KD) st2) (WS W σ) Q := o2
      by_cases c : b.length ≠ 0 ∧ a.length ≤ 10000000
      · rw [if_pos c] at o3
        refine ⟨a, b, rfl, rfl, by simpa using c.1, by rw [sizeLine_eq]; omega, fun q hq => fin_lst (.inl ⟨rfl, fun d hd => ?_⟩) o3 (p1.trans p2) g2.s Own.nil (frs_strsM _).frz hq⟩
        obtain ⟨s, _, rfl⟩ := List.mem_map.mp hd
        rfl
      · rw [if_neg c] at o3
        exact o3.elim
    | _ => exact o2.elim
  | _ => cases c0
end
section
variable {P : Pr} {ρ : Env} {st : Sto} {X : Nat → D → Sto → Prop} {Q : KD → Sto → Prop}
@[simp] theorem wp_splitE {o e : E} : Wp (evE P (splitE o e) ρ) st Q X ↔ Wp (evE P o ρ) st (fun x s => Wp (if okM .join x.2 then evE P e ρ >>= fun y => splitD x y else no) s Q X) X := by
  unfold splitE
  rw [evE]
  simp only [wp_bind]
theorem wp_splitD {a b : Str} {k l : Kd} (hb : b.length ≠ 0) (ha : a.length ≤ 10000000) : Wp (splitD (k, .str a) (l, .str b)) st Q X ↔ Q (.an, .lst ((Txt.split a b).map D.str)) st := by
  show Wp (if b.length ≠ 0 ∧ a.length ≤ 10000000 then pure (Kd.an, D.lst ((Txt.split a b).map D.str)) else no : M KD) st Q X ↔ _
  rw [if_pos ⟨hb, ha⟩]
  exact Iff.rfl
end
end PV

/-! part PV134 -/
/-! PV134: x == (), x != () of a tuple of anything. -/
noncomputable section
namespace RT
open PySem PySem.W PySem.Spec PyProof.Rows L2
section
variable {prog : Program} {w : World}
open PySem.SeqAt in
open AutoSeq1 (wpAny_loadPart') in
open MeetsSeq MeetsSeq2 MeetsSeq3 SeqRoads2 in
open PySem.SeqAt in
open AutoSeq1 (wpAny_loadPart') in
open MeetsSeq MeetsSeq2 MeetsSeq3 SeqRoads2 in
variable {X : Cx}
def rEq0 (ne : Bool) (K : PySem.W.Frag) : R2 := fun x y H Q => ∃ a b vs, x = .ref a ∧ y = .ref b ∧ SqT K H a vs ∧ SqT K H b [] ∧ Q (.bl (if ne then vs.length != 0 else vs.length == 0)) H
end
end RT
namespace PV
open PySem PySem.W PySem.Spec PyProof.Rows L2 LamX NdefX
def eq0O (ne : Bool) : D → Option Bool
  | .tup ds => some (if ne then ds.length != 0 else ds.length == 0)
  | _ => none
def eq0E (ne : Bool) (a : E) : E := .sem fun P ρ => evE P a ρ >>= fun x => ofO ((eq0O ne x.2).map fun c => (.fz, .bl c))
section
variable {X : Cx} {G : Gx} {P : Pr} {pos p2 : Pos}
theorem evB_eq0 {ne : Bool} {a : PV.E} {ρ : Env} : evB P (eq0E ne a) ρ = evE P a ρ >>= fun x => ofO (eq0O ne x.2) := by
  unfold evB eq0E
  rw [evE]
  simp only [M.assoc]
  congr 1
  funext x
  cases eq0O ne x.2 <;> rfl
end
section
variable {P : Pr} {ρ : Env} {st : Sto} {X : Nat → D → Sto → Prop}
@[simp] theorem wp_eq0E {ne : Bool} {a : E} {Q : KD → Sto → Prop} : Wp (evE P (eq0E ne a) ρ) st Q X ↔ Wp (evE P a ρ) st (fun x s => Wp (ofO (eq0O ne x.2)) s (fun c s => Q (.fz, .bl c) s) X) X := by
  unfold eq0E
  rw [evE]
  simp only [wp_bind]
  constructor <;> intro h <;> refine Wp.mono h (fun x s q => ?_) fun _ _ _ e => e
  · cases e : eq0O ne x.2 with
    | none => rw [e] at q; exact q
    | some c => rw [e] at q; exact q
  · cases e : eq0O ne x.2 with
    | none => rw [e] at q; exact q
    | some c => rw [e] at q; exact q
@[simp] theorem wp_eq0B {ne : Bool} {a : E} {Q : Bool → Sto → Prop} : Wp (evB P (eq0E ne a) ρ) st Q X ↔ Wp (evE P a ρ) st (fun x s => Wp (ofO (eq0O ne x.2)) s (fun c s => Q c s) X) X := by
  rw [evB_eq0]
  simp only [wp_bind]
@[simp] theorem eq0O_tup {ne : Bool} {ds : List D} : eq0O ne (.tup ds) = some (if ne then ds.length != 0 else ds.length == 0) := rfl
end
end PV

/-! part PV135 -/
/-! PV135: the facts of such an exception class, read off the written part by computing. -/
namespace BT
open PySem PySem.W PySem.Calls PyProof.Rows PySem.Spec L2
def bodyB : List Stmt → Bool
  | [.Expr (.Call (.Attribute (.Call (.Name s _) [] [] _) i p2) [.Constant (.str t) _ _] [] p4) _, .Assign [.Attribute (.Name sf _) r _] (.Name r2 _) _] =>
    decide (s = "super") && (decide (i = "__init__") && (decide (t = "bad text") && (decide (sf = "self") && (decide (r = "row") && (decide (r2 = "row") && (p2.endLine == p4.line))))))
  | _ => false
theorem bodyB_ok {b : List Stmt} (h : bodyB b = true) : ∃ (p0 p1 p2 p3 p4 p5 p6 p7 p8 p9 p10 : Pos) (j : Nat), b = btBody p0 p1 p2 p3 p4 p5 p6 p7 p8 p9 p10 j ∧ (p2.endLine == p4.line) = true := by
  unfold bodyB at h
  split at h
  · simp only [Bool.and_eq_true, decide_eq_true_eq] at h
    obtain ⟨rfl, rfl, rfl, rfl, rfl, rfl, hl⟩ := h
    exact ⟨_, _, _, _, _, _, _, _, _, _, ⟨0, 0, 0, 0⟩, _, rfl, hl⟩
  · cases h
theorem ev_super {p0 p1 p2 p3 p4 : Pos} {j : Nat} {env : Env} (hl : (p2.endLine == p4.line) = true) : ∃ pl : Sem Bool, eval (.Call (.Attribute (.Call (.Name "super" p0) [] [] p1) "__init__" p2) [.Constant (.str "bad text") j p3] [] p4) env = (do
      let ov ← attributeBase (.Call (.Name "super" p0) [] [] p1) "__init__" env (eval (.Call (.Name "super" p0) [] [] p1) env)
      standAt p2.atName
      let (fx, first) ← holding [ov] (getMethod ov "__init__" pl)
      callWith p4 fx first (backTo p4 (starEach [.Constant (.str "bad text") j p3] env)) []) := by
  refine ⟨(do return (← importBound (.Call (.Name "super" p0) [] [] p1) env).getD true), ?_⟩
  have e : ∀ b : Bool, methodCallPos b (.Call (.Name "super" p0) [] [] p1) env p2 p4 = pure p4 := fun b => by
    unfold methodCallPos
    rw [hl, Bool.or_true, if_pos rfl]
  have e2 : eval (.Call (.Attribute (.Call (.Name "super" p0) [] [] p1) "__init__" p2) [.Constant (.str "bad text") j p3] [] p4) env = (do
      let ov ← attributeBase (.Call (.Name "super" p0) [] [] p1) "__init__" env (eval (.Call (.Name "super" p0) [] [] p1) env)
      standAt p2.atName
      methodCall (.Call (.Name "super" p0) [] [] p1) "__init__" p2 p4 env ov 1 (backTo p4 (starEach [.Constant (.str "bad text") j p3] env)) []) := rfl
  rw [e2]
  unfold methodCall
  simp only [e]
  rfl
def parB : Arguments → Bool
  | ⟨[], [⟨a, none, _⟩, ⟨b, none, _⟩], none, [], [], none, []⟩ => decide (a = "self") && decide (b = "row")
  | _ => false
theorem parB_ok {b : Arguments} (h : parB b = true) : ∃ p q : Pos, b = ⟨[], [⟨"self", none, p⟩, ⟨"row", none, q⟩], none, [], [], none, []⟩ := by
  unfold parB at h
  split at h
  · simp only [Bool.and_eq_true, decide_eq_true_eq] at h
    obtain ⟨rfl, rfl⟩ := h
    exact ⟨_, _, rfl⟩
  · cases h
def scoB (s : Scope) : Bool := decide (s.names.lookup ("super" : Str) = some .globalImplicit) && (decide (s.names.lookup ("__class__" : Str) = some .free) && (decide (s.names.lookup ("self" : Str) = some .local) && (decide (s.names.lookup ("row" : Str) = some .local) &&
  (decide (s.kind = .function) && (!s.isCoroutine && (!s.isGenerator && s.names.all fun x => !decide (x.2 = .cell)))))))
/-- the function, its code object, its cell -/
def fnB (K : Frag) (file : Str) (C : Addr) (f : Addr) : Bool := match K.lookup f with
  | some ⟨_, _, .func ⟨_, q, pa, .stmts b, sc, g, [(x, cc)], dV, kV, _, _, _, .ref cda, _, bi⟩, _⟩ => bodyB b && (parB pa && (scoB sc && (decide (g = mainGlobals) && (decide (bi = builtinsNs) && (decide (x = "__class__") && (decide (dV = .none) && (decide (kV = .none) && (codeIn K (.ref cda) q &&
      ((match K.lookup cda with
        | some ⟨_, _, .fields vs, _⟩ => (match vs[2]? with
          | some (Value.str z _) => (file == z)
          | _ => false)
        | _ => false) &&
      (match K.lookup cc with
        | some ⟨_, _, .cell (some (.ref D)), _⟩ => decide (D = C)
        | _ => false))))))))))
  | _ => false
def clB (K : Frag) (C : Addr) : Bool := match K.lookup C with
  | some ⟨.type "type", _, .cls cd, sl⟩ => (match cd.mro, sl.toList with
    | .ref C' :: bm, [_, _, _, _, some (.builtin n), _] => decide (C' = C) && (decide (n = "ValueError.__new__") && (!cd.hasDel && (cd.hasDict && PySem.HandSPX.refsVE bm)))
    | _, _ => false)
  | _ => false
theorem clB_ok {K : Frag} {C : Addr} (h : clB K C = true) : ∃ nm q N bs bm sn sub ab col dd k0 k1 k2 k3 k5, K.lookup C = some (excClassObj nm q C N bs bm true sn sub ab col dd k0 k1 k2 k3 k5 "ValueError.__new__") ∧ PySem.HandSPX.refsVE bm = true := by
  unfold clB at h
  split at h
  · rename_i dd cd sl e
    obtain ⟨nm, bs, mro, N, q, hd, sn, sub, ab, col, del⟩ := cd
    obtain ⟨sl⟩ := sl
    dsimp only at h
    split at h
    · rename_i C' bm k0 k1 k2 k3 n k5
      simp only [Bool.and_eq_true, decide_eq_true_eq, Bool.not_eq_true'] at h
      obtain ⟨rfl, rfl, rfl, rfl, hb⟩ := h
      exact ⟨_, _, _, _, _, _, _, _, _, _, _, _, _, _, _, e, hb⟩
    · cases h
  · cases h
/-- the class, its __init__ at f -/
def btB (K : Frag) (file : Str) (C : Addr) : Bool := clB K C && (fnB K file C (He.ma K C "__init__") && (decide (findIn K (.ref C) "__setattr__" = some (some (.builtin "object.__setattr__"))) && (decide (subIn K (.ref C) (.type "BaseException") = some true) && (decide (typeIn K (.ref C) = some (.type "type")) && (keepIn K (.ref C) &&
  (decide (findIn K (.ref C) "__init__" = some (some (.ref (He.ma K C "__init__")))) && (decide (typeIn K (.ref (He.ma K C "__init__")) = some (.type "function")) && (decide (nsIn K mainGlobals "super" = some none) && (decide (nsIn K cStatics "thirdparty.any" = some none) && (decide (ks_superIn K C C "__init__" = some (some (.builtin "ValueError.__init__"))) &&
  (decide (findIn K (.ref C) "row" = some none) && (decide (subIn K (.ref C) (.type "ValueError") = some true) && (decide (mroIn K C (.ref C) = some true) && (xfB K C && decide (exmOne K (.ref C) (.ref C) = some true)))))))))))))))
theorem bx {a b : Bool} (h : (a && b) = true) : a = true ∧ b = true := Bool.and_eq_true_iff.mp h
theorem btB_ok {prog : Program} {K : Frag} {file : Str} {C : Addr} (hf : (prog.main.file : Str) = file) (ht : (prog.main.scope.names.lookup ("super" : Str)).isSome = false) (h : btB K file C = true) : BtX prog K C := by
  unfold btB at h
  obtain ⟨c1, h⟩ := bx h
  obtain ⟨c2, h⟩ := bx h
  obtain ⟨c3, h⟩ := bx h
  obtain ⟨c4, h⟩ := bx h
  obtain ⟨c5, h⟩ := bx h
  obtain ⟨c6, h⟩ := bx h
  obtain ⟨c7, h⟩ := bx h
  obtain ⟨c8, h⟩ := bx h
  obtain ⟨c9, h⟩ := bx h
  obtain ⟨c10, h⟩ := bx h
  obtain ⟨c11, h⟩ := bx h
  obtain ⟨c12, h⟩ := bx h
  obtain ⟨c13, h⟩ := bx h
  obtain ⟨c14, h⟩ := bx h
  obtain ⟨c15, c16⟩ := bx h
  refine ⟨?_, xfB_ok c15, of_decide_eq_true c12, of_decide_eq_true c16⟩
  generalize He.ma K C "__init__" = f at *
  unfold fnB at c2
  split at c2
  · rename_i oc od nm q pa b sc g x cc dV kV doc pm an cda ct bi osl e
    obtain ⟨d1, c2⟩ := bx c2
    obtain ⟨d2, c2⟩ := bx c2
    obtain ⟨d3, c2⟩ := bx c2
    obtain ⟨d4, c2⟩ := bx c2
    obtain ⟨d5, c2⟩ := bx c2
    obtain ⟨d6, c2⟩ := bx c2
    obtain ⟨d7, c2⟩ := bx c2
    obtain ⟨d8, c2⟩ := bx c2
    obtain ⟨d9, c2⟩ := bx c2
    obtain ⟨d10, d11⟩ := bx c2
    obtain ⟨p0, p1, p2, p3, p4, p5, p6, p7, p8, p9, p10, j, rfl, hl⟩ := bodyB_ok d1
    obtain ⟨qa, qb, rfl⟩ := parB_ok d2
    obtain rfl := of_decide_eq_true d4
    obtain rfl := of_decide_eq_true d5
    obtain rfl := of_decide_eq_true d6
    obtain rfl := of_decide_eq_true d7
    obtain rfl := of_decide_eq_true d8
    unfold scoB at d3
    simp only [Bool.and_eq_true, decide_eq_true_eq, Bool.not_eq_true', List.all_eq_true, decide_eq_false_iff_not] at d3
    obtain ⟨s1, s2, s3, s4, s5, s6, s7, s8⟩ := d3
    have hcode : ∃ ccl cdd vs ccs file' tf, K.lookup cda = some ⟨ccl, cdd, .fields vs, ccs⟩ ∧ vs[2]? = some (.str file' tf) ∧ ((prog.main.file : Str) == file') = true := by
      split at d10
      · rename_i ccl cdd vs ccs e1
        split at d10
        · rename_i z tf e2
          exact ⟨_, _, _, _, _, _, e1, e2, by rw [hf]; exact d10⟩
        · cases d10
      · cases d10
    have hcell : ∃ cl cld csl, K.lookup cc = some ⟨cl, cld, .cell (some (.ref C)), csl⟩ := by
      split at d11
      · rename_i cl cld D csl e1
        obtain rfl := of_decide_eq_true d11
        exact ⟨_, _, _, e1⟩
      · cases d11
    refine ⟨f, _, ⟨⟨_, _, _, p0, p1, p2, p3, p4, p5, p6, p7, p8, p9, p10, j, sc, .none, .none, doc, pm, ct, an, cc, cda, ⟨"self", none, qa⟩, rfl, ⟨_, _, _, e⟩, d9, hcode, hcell, rfl, rfl, s1, s2, s3, s4, s5, s6, s7, s8, fun L => ev_super hl, fun L => rfl, fun L => rfl⟩, ⟨clB_ok c1, of_decide_eq_true c3, of_decide_eq_true c4, of_decide_eq_true c5, c6⟩, of_decide_eq_true c7, of_decide_eq_true c8, ?_, ht, of_decide_eq_true c9, of_decide_eq_true c10, of_decide_eq_true c11, of_decide_eq_true c12, of_decide_eq_true c13, of_decide_eq_true c14⟩⟩
    exact .all fun us hl => match us, hl with
      | [_, _], _ => rfl
  · cases c2
end BT

/-! part PV136 -/
/-! PV136: min(d.items(), key=lambda), d a locked dict, the keys data. -/
noncomputable section
namespace RT
open PySem PySem.W PySem.Spec PyProof.Rows L2
abbrev Bst : Type := Option (Nat × Value × Value)
/-- min with key=, the items made as they are drawn -/
structure ItemRun (prog : Program) (w : World) (A : Around) (q : Value) (I S : Addr) (n : Nat) (J : Bst → Nat → Shared → Prop) (J1 : Bst → Nat → Value → Shared → Prop) (J2 : Bst → Nat → Value → Value → Shared → Prop) (JE : Bst → Shared → Prop) (bt : Nat → Nat → Bool) : Prop where
  next : ∀ b i (s : Shared) (o : Obj) (Q : Option Value → Shared → Prop) (E : Value → Shared → Prop), i < n → J b i s → s.heap.get? S = some o → (∀ v s', J1 b i v s' → s'.heap.get? S = some o → Q (some v) s') → wpAny (model prog w) A (pyNext (.ref I)) Q E s
  done : ∀ b (s : Shared) (o : Obj) (Q : Option Value → Shared → Prop) (E : Value → Shared → Prop), J b n s → s.heap.get? S = some o → (∀ s', JE b s' → s'.heap.get? S = some o → Q none s') → wpAny (model prog w) A (pyNext (.ref I)) Q E s
  turn : ∀ b i v (s : Shared) (o : Obj) (Q : Value → Shared → Prop) (E : Value → Shared → Prop), i < n → J1 b i v s → s.heap.get? S = some o → (∀ k s', J2 b i v k s' → s'.heap.get? S = some o → Q k s') → wpAny (model prog w) A (call q [v]) Q E s
  cmp : ∀ j vj kj i vi ki (s : Shared) (Q : Value → Shared → Prop) (E : Value → Shared → Prop), J2 (some (j, vj, kj)) i vi ki s → Q (.bool (bt i j)) s → wpAny (model prog w) A (richCompare .Lt ki kj) Q E s
  old : ∀ b i v k s, J2 b i v k s → J b (i + 1) s
  new : ∀ b i v k s, J2 b i v k s → J (some (i, v, k)) (i + 1) s
  setS : ∀ b i (s : Shared) (f : Obj → Obj), J b i s → J b i { s with heap := s.heap.update S f }
  setE : ∀ b (s : Shared) (f : Obj → Obj), JE b s → JE b { s with heap := s.heap.update S f }
section
variable {prog : Program} {w : World} {A : Around} {R : Result → Shared → Prop} {I S : Addr} {n : Nat} {J : Bst → Nat → Shared → Prop} {J1 : Bst → Nat → Value → Shared → Prop} {J2 : Bst → Nat → Value → Value → Shared → Prop} {JE : Bst → Shared → Prop} {bt : Nat → Nat → Bool} {q : Addr}
end
end RT
namespace PV
open PySem PySem.W PySem.Spec PyProof.Rows L2 LamX NdefX
/-- the pairs of a dict that is lent -/
def lkItems (x : KD) : M (List D) := match x with
  | (.lk, .dic kvs) => pure (kvs.map fun p => .tup [keyD p.1, p.2])
  | _ => no
def minItE (f a : E) : E := .sem fun P ρ => evE P a ρ >>= fun x => lkItems x >>= fun ds => minkdM (fun d => evE P f (ρ ++ [some (0, d)])) ds

/-- the view of d's pairs -/
def ViewO (v d : Addr) : HO := .ext fun h => h.IsItemsView v d
section
variable {X : Cx} {e : Expr} {te : TE} {apos cpos : Pos}
end
section
variable {X : Cx} {G : Gx} {P : Pr} {pos : Pos}
/-- the best so far: its item, its key -/
def BstAt (G : Gx) (w : Wd) (H : Hp) (ds ks : List D) : RT.Bst → Prop
  | none => True
  | some (i, v, k) => i < ks.length ∧ (∃ y, RelV y v ∧ FR G w H (ds.getD i .non) y) ∧ ∃ z, RelV z k ∧ FR G w H (ks.getD i .non) z
theorem BstAt.po {w w' : Wd} {H H' : Hp} {ds ks : List D} {b : RT.Bst} (h : BstAt G w H ds ks b) (s : Wf G w H) (p : Po w H w' H') : BstAt G w' H' ds ks b := by
  cases b with
  | none => trivial
  | some q => exact ⟨h.1, h.2.1.imp fun z hz => ⟨hz.1, hz.2.po s p⟩, h.2.2.imp fun z hz => ⟨hz.1, hz.2.po s p⟩⟩
end
end PV

/-! part PV137 -/
/-! PV137: what the names reach, and the statics' table beside it. -/
namespace PV
open PySem
def asX2 (g : Addr → Option Obj) (n : Nat) : List Addr := He.asD g n ++ [cStatics]
def obsX2 (n : Nat) (fa : List He.Fa) (fn : List He.DefD) (ts : List He.Tab) (tf : List He.Defn) (ex : PySem.W.Frag → Bool) (g : Addr → Option Obj) : He.AlX := (He.obsT fa fn ts (He.frT g (asX2 g n)), ex (He.frT g (asX2 g n)) && He.tabsB g tf (He.frT g (asX2 g n)))
theorem saysX2_of {n : Nat} {fa : List He.Fa} {fn : List He.DefD} {ts : List He.Tab} {tf : List He.Defn} {ex : PySem.W.Frag → Bool} {w : World} {h : Heap} (e : obsX2 n fa fn ts tf ex h.get? = He.valX fn ts w) : He.SaysX fa fn ts tf ex w h (He.frT h.get? (asX2 h.get? n)) := by
  have e1 : He.obsT fa fn ts (He.frT h.get? (asX2 h.get? n)) = He.valT fn ts w := congrArg (fun z : He.AlX => z.1) e
  have e2 : (ex (He.frT h.get? (asX2 h.get? n)) && He.tabsB h.get? tf (He.frT h.get? (asX2 h.get? n))) = true := congrArg (fun z : He.AlX => z.2) e
  obtain ⟨h1, h2⟩ := Bool.and_eq_true_iff.mp e2
  have key : ∀ p ∈ tf, PySem.W.codeHdIn (He.frT h.get? (asX2 h.get? n)) (He.cT (He.frT h.get? (asX2 h.get? n)) p).1 (He.cT (He.frT h.get? (asX2 h.get? n)) p).2 = true ∧ ∃ o, h.get? (He.cT (He.frT h.get? (asX2 h.get? n)) p).2 = some o ∧ He.emptyTab o = true := fun p hp => by
    obtain ⟨h3, h4⟩ := Bool.and_eq_true_iff.mp (List.all_eq_true.mp h2 p hp)
    refine ⟨h3, ?_⟩
    cases q : h.get? (He.cT (He.frT h.get? (asX2 h.get? n)) p).2 with
    | none => rw [q] at h4; cases h4
    | some o => rw [q] at h4; exact ⟨o, rfl, h4⟩
  exact ⟨e1, h1, fun p hp => (key p hp).1, fun p hp => by
    obtain ⟨_, o, q, z⟩ := key p hp
    exact He.frT_none q z, fun p hp => by
    obtain ⟨_, o, q, z⟩ := key p hp
    rw [q, He.emptyTab_eq z]⟩
def hookX2 (n : Nat) (fa : List He.Fa) (fn : List He.DefD) (ts : List He.Tab) (tf : List He.Defn) (ex : PySem.W.Frag → Bool) : PySem.W.Hook where
  α := He.AlX
  obs := fun s => obsX2 n fa fn ts tf ex s.heap.get?
  val := fun w => He.valX fn ts w
  says := fun w h => ∃ K : PySem.W.Frag, K.In h ∧ He.SaysX fa fn ts tf ex w h K
  of := fun _ _ e => ⟨_, He.frT_in, saysX2_of e⟩
  keeps := fun _ _ _ ⟨K, hK, c⟩ k => ⟨K, PySem.W.Frag.In.keeps hK k, ⟨c.t, c.more, c.hd, c.out, fun p hp => k _ _ (c.empty p hp)⟩⟩
theorem obsX2_eq {n : Nat} {fa : List He.Fa} {fn : List He.DefD} {ts : List He.Tab} {tf : List He.Defn} {ex : PySem.W.Frag → Bool} {g : Addr → Option Obj} {s : Shared} (h : ∀ a, g a = s.heap.get? a) : obsX2 n fa fn ts tf ex g = (hookX2 n fa fn ts tf ex).obs s := by
  have e : g = s.heap.get? := funext h
  rw [e] <;> rfl
end PV

/-! part PV141 -/
/-! PV141: a class called without arguments; code that no run reaches. -/
noncomputable section
namespace PV
open PySem PySem.Spec PyProof.Rows L2 LamX NdefX
section
variable {X : Cx} {G : Gx} {P : Pr} {pos : Pos}
theorem pe_makeS0 {CX : CXT} {C f : Addr} {fd : FuncData} {ps : List Str} {sp : Sp} {k : Nat} {E : L2.St → XK} {x : Str} {p : Pos} (M : Mk X.K C f) (F : FnOk X.prog X.w X.K X.mg X.base CX k f fd ps sp) (hr : Room (k + 1) X.A) (hg : Gl X x) (hm : X.mg x = some (.ref C)) (hb : L2.Binds X.K fd ps []) (hx : ∀ σ, PassesAt CX X σ (E σ))
    (hdb : (x == ("__debug__" : Str)) = false) : PE X (.Call (.Name x p) [] [] pos) (tMakeS C sp E tNil) := by
  refine ⟨fun pins s σ H Q I h => wpAny_Call_Name_kw (ld_glob I hg hm ?_ hdb)⟩
  exact PySem.W.callWith_K0 I.kIn M.kp (run_makeS M F hr hb (hx σ) I .nil h)
theorem de_new0 {k c : Nat} {x : Str} {q : Pos} {ini : List D → M D} (hf : Nw P.nm X G k x c 0 ini) (hP : ∀ C fs, G.cl c = some (C, fs) → P.new c = newI c fs.length ini) (hr : Room (k + 1) X.A) (hg : Gl X x)
    (hdb : (x == ("__debug__" : Str)) = false := by decide) : DE X G P (.Call (.Name x q) [] [] pos) (.make c []) := fun W tk => by
  obtain ⟨C, fs, fa, fd, pns, hm, hcl, MM, hb, F⟩ := hf.go
  refine imE (pe_makeS0 (E := WE W) MM F hr hg hm hb (tk.pass) hdb) fun σ H Q hh => ?_
  obtain ⟨w, ρ, Os, st, g, ot⟩ := hh
  rw [evE, evEs_nil] at ot
  have o2 : Out G (KR G Os) w H ((P.new c [] >>= fun d => (pure (.fz, d) : M KD)) st) (WS W σ) Q := ot
  rw [hP C fs hcl] at o2
  intro a dx ha hd hne
  exact made_fin hcl o2 (Po.refl _ _) g.s .nil rfl ha hd hne
/-- code that no run reaches -/
def cutS : S := .sem fun _ _ => no
theorem dss_cut {ps : List Stmt} : DSs X G P ps [cutS] := fun W w0 H0 wL HL _ => ⟨fun pins s σ H D I ⟨w, ρ, Os, st, a, o⟩ => by
  unfold cutS at o
  rw [evSs, evS] at o
  exact (show False from o).elim⟩
end
end PV

/-! part PV138 -/
/-! PV138: a list of lambdas: made, one of them called by a def. -/
noncomputable section
namespace PV
open PySem PySem.Spec PyProof.Rows L2 LamX NdefX
abbrev lamOb (env : PySem.Env) (params : Arguments) (body : Expr) (scope : Scope) (pm : Value) (c' : Addr) (ctv : Value) : Obj := PySem.W.kla_obj "<lambda>" (env.qual ++ "<lambda>") params body scope (cloFrom env.cells scope.names []) pm c' ctv
abbrev LamO (f : Addr) (ob : Obj) : HO := .ext fun h => h.get? f = some ob
theorem lamO_ne {f : Addr} {ob : Obj} : ∀ ps, LamO f ob ≠ .tbl ps := fun _ z => nomatch z
/-- the function at f: the lambda of that text -/
def IsLam (H : Hp) (env : PySem.Env) (params : Arguments) (f : Addr) (l : Expr × Scope) : Prop := ∃ pm c' ctv, H f = some (LamO f (lamOb env params l.1 l.2 pm c' ctv)) ∧ H c' = some (CodeO c' (env.qual ++ "<lambda>"))
theorem IsLam.ext {H H' : Hp} {env : PySem.Env} {params : Arguments} {f : Addr} {l : Expr × Scope} (h : IsLam H env params f l) (e : ExtN H H') : IsLam H' env params f l := by
  obtain ⟨pm, c', ctv, h1, h2⟩ := h
  exact ⟨pm, c', ctv, e _ _ h1 lamO_ne, e _ _ h2 codeO_ne⟩
theorem ext_keep {G : Gx} {w w' : Wd} {H H' : Hp} {st : Sto} {c : Addr} {φ : Heap → Prop} (s : St G w H st) (p : Po w H w' H') (h : H c = some (.ext φ)) : H' c = some (.ext φ) := by
  refine p.keep c _ h (fun z => ?_) (fun z => ?_) (fun _ z => nomatch z)
  · exact s.nr.noext c (.inl z) _ h
  · exact s.nr.noext c (.inr z) _ h
theorem IsLam.po {G : Gx} {w w' : Wd} {H H' : Hp} {st : Sto} {env : PySem.Env} {params : Arguments} {f : Addr} {l : Expr × Scope} (h : IsLam H env params f l) (s : St G w H st) (p : Po w H w' H') : IsLam H' env params f l := by
  obtain ⟨pm, c', ctv, h1, h2⟩ := h
  exact ⟨pm, c', ctv, ext_keep s p h1, ext_keep s p h2⟩
section
variable {X : Cx} {pins : List (Addr × Obj)} {σ : L2.St} {H : Hp} {s s0 : Shared}
/-- a new untracked object is tracked -/
theorem inv_track {f : Addr} {o : HO} (I0 : Inv X pins σ H s0) {H1 : Hp} (I : Inv X pins σ H1 s) (hge : s0.heap.objs.size ≤ f) (hn : H1 f = none) (hok : ObjOk X.prog X.w (upd H1 f o) s.heap f o) : Inv X pins σ (upd H1 f o) s := by
  have up : ∀ {b : Addr} {u : HO}, H1 b = some u → upd H1 f o b = some u := fun {b u} e => by rw [upd_ne (ne_of_none e hn)]; exact e
  have lt : ∀ {b : Addr} {u : Obj}, s0.heap.get? b = some u → b ≠ f := fun {b u} e z => by
    rw [z] at e
    exact absurd (Nat.lt_of_lt_of_le (Heap.lt_size e) hge) (Nat.lt_irrefl _)
  refine I.step (g' := s.gens) (t' := s.toks) (d' := s.drawn) (h' := s.heap) (ch := [f]) (fun b hb => ?_) (fun b o _ _ _ e _ => e) (fun b o _ _ _ e _ => ⟨o.slots, e⟩) (fun b u hc e n => ?_) (fun b u _ e => ⟨u, e⟩) (fun b xs e => up e) (fun b u v e => up e) (fun b ps e => ⟨#[], by rw [up e]; simp⟩) (fun m hm => hm) (fun b u e => ?_) I.bare
  · have e : b = f := by simpa using hb
    subst e
    refine ⟨.inr (Nat.le_trans I0.sz hge), fun z => ?_, fun x c e z => ?_, fun p hp z => ?_⟩
    · have := I0.lt
      rw [← z] at this
      exact absurd (Nat.lt_of_lt_of_le this hge) (Nat.lt_irrefl _)
    · obtain ⟨v, o, ho, _⟩ := I0.cell x c e
      exact lt ho z
    · exact lt (I0.pin p hp).1 z
  · rw [upd_ne (fun z => hc (by simp [z]))]
    exact n
  · by_cases hb : b = f
    · subst hb
      rw [upd_same] at e
      cases e
      exact hok
    · rw [upd_ne hb] at e
      exact (I.hok b u e).stay (fun c v _ q => q) (fun c q => up q) fun c xs q => up q
/-- lambda: .., the function tracked -/
def tLamE (G : Gx) (env : PySem.Env) (params : Arguments) (l : Expr × Scope) : TE := fun _ H Q => TabsN G.T H ∧ ∀ f H1, Gr G H H1 → IsLam H1 env params f l → Q (.ref f) H1
theorem pe_lamE {G : Gx} {params : Arguments} {body : Expr} {scope : Scope} {pos : Pos} (TB : TabAt X G.T pos "<lambda>") (L : LamS X.env.scope scope) (hdef : defaultsOf params X.env = ([], []) := by rfl) : PE X (.Lambda params body scope pos) (tLamE G X.env params (body, scope)) := by
  refine ⟨fun pins s σ H Q I h => ?_⟩
  obtain ⟨hT, h⟩ := h
  obtain ⟨c, P, nm, TB, hcode, hmT, hu, hn⟩ := TB.go
  refine lam_makeF I TB hcode hmT hn hu hT hdef (L.has I.ok) fun f c' pm ctv H1 s' hge I1 eN nN T1 hf hfn hfr hco => ?_
  have I2 := inv_track (o := LamO f (lamOb X.env params body scope pm c' ctv)) I I1 hge hfn ⟨hf, ⟨_, hf⟩, fun h1 h2 e k => k _ e⟩
  have up : ∀ {b : Addr} {u : HO}, H1 b = some u → upd H1 f (LamO f (lamOb X.env params body scope pm c' ctv)) b = some u := fun {b u} e => by rw [upd_ne (ne_of_none e hfn)]; exact e
  exact ⟨.ref f, _, I2, rfl, h f _ ⟨fun b o e n => up (eN b o e n), fun b e => nN b (upd_none e), tabsN_new hfn T1⟩ ⟨pm, c', ctv, upd_same, up hco⟩⟩
/-- all of them -/
def LamAll (H : Hp) (env : PySem.Env) (params : Arguments) : List Addr → List (Expr × Scope) → Prop
  | [], [] => True
  | f :: fs, l :: ls => IsLam H env params f l ∧ LamAll H env params fs ls
  | _, _ => False
theorem LamAll.ext {H H' : Hp} {env : PySem.Env} {params : Arguments} (e : ExtN H H') : ∀ {fs : List Addr} {ls : List (Expr × Scope)}, LamAll H env params fs ls → LamAll H' env params fs ls
  | [], [], _ => trivial
  | _ :: _, _ :: _, h => ⟨h.1.ext e, LamAll.ext e h.2⟩
  | [], _ :: _, h => h.elim
  | _ :: _, [], h => h.elim
theorem LamAll.len {H : Hp} {env : PySem.Env} {params : Arguments} : ∀ {fs : List Addr} {ls : List (Expr × Scope)}, LamAll H env params fs ls → fs.length = ls.length
  | [], [], _ => rfl
  | _ :: _, _ :: _, h => congrArg Nat.succ (LamAll.len h.2)
  | [], _ :: _, h => h.elim
  | _ :: _, [], h => h.elim
theorem LamAll.at_ {H : Hp} {env : PySem.Env} {params : Arguments} : ∀ {fs : List Addr} {ls : List (Expr × Scope)}, LamAll H env params fs ls → ∀ {k : Nat} {l : Expr × Scope}, ls[k]? = some l → ∃ f, fs[k]? = some f ∧ IsLam H env params f l
  | [], [], _, k, l, e => by simp at e
  | f :: fs, l' :: ls, h, 0, l, e => by
    simp at e
    subst e
    exact ⟨f, rfl, h.1⟩
  | f :: fs, l' :: ls, h, k + 1, l, e => by
    simp at e
    obtain ⟨f', e1, e2⟩ := LamAll.at_ h.2 e
    exact ⟨f', by simpa using e1, e2⟩
  | [], _ :: _, h, _, _, _ => h.elim
  | _ :: _, [], h, _, _, _ => h.elim
def tLams (G : Gx) (env : PySem.Env) (params : Arguments) (ls : List (Expr × Scope)) : TA := fun _ H Q => TabsN G.T H ∧ ∀ fs H1, Gr G H H1 → LamAll H1 env params fs ls → Q (fs.map .ref) H1
theorem pa_lams {G : Gx} {params : Arguments} (hdef : defaultsOf params X.env = ([], []) := by rfl) : ∀ (ls : List (Expr × Scope × Pos)), (∀ l ∈ ls, TabAt X G.T l.2.2 "<lambda>" ∧ LamS X.env.scope l.2.1) → PA X (ls.map fun l => .Lambda params l.1 l.2.1 l.2.2) (tLams G X.env params (ls.map fun l => (l.1, l.2.1)))
  | [], _ => imA pa_nil fun σ H Q ⟨T, h⟩ => h [] H ⟨ExtN.refl H, fun _ e => e, T⟩ trivial
  | l :: ls, hl => imA (pa_cons (pe_lamE (hl l (by simp)).1 (hl l (by simp)).2 hdef) (pa_lams hdef ls fun l' h => hl l' (by simp [h]))) fun σ H Q ⟨T, h⟩ => by
    refine ⟨T, fun f H1 g1 il => ⟨g1.3, fun fs H2 g2 al => ?_⟩⟩
    exact h (f :: fs) H2 ⟨g1.1.trans g2.1, fun b e => g1.2 b (g2.2 b e), g2.3⟩ ⟨il.ext g2.1, al⟩
end
end PV

/-! part PV139 -/
/-! PV139: x(ws[k]), ws a list of lambdas, x a def that calls what it gets. -/
noncomputable section
namespace PV
open PySem PySem.Spec PyProof.Rows L2 LamX NdefX
section
variable {X : Cx} {pins : List (Addr × Obj)} {σ : L2.St} {H HZ : Hp} {s s1 : Shared}
/-- x(), in the def that got the lambda, the function tracked -/
theorem pe_actE {CXg : CXT} {Eg : XK} {Ng : List Str} {qg : Str} {sg : Scope} {g f c' : Addr} {cdg pm ctv : Value} {params : Arguments} {body : Expr} {scope : Scope} {k i : Nat} {a : Str} {pn : List (Addr × Obj)} {xe : Value → Shared → Prop} {W : WX} {E : XK} {tb : TE} {p1 p2 : Pos}
    (I : Inv X pins σ H s) (L : LamS X.env.scope scope)
    (hbind : bindArgs (PySem.W.kla_fn "<lambda>" (X.env.qual ++ "<lambda>") params body scope (cloFrom X.env.cells scope.names []) pm (.ref c') ctv) ⟨[], []⟩ = pure [])
    (tk : L2.Takes ((cxOf CXg X.prog X.w X.K X.mg X.base Ng qg sg g cdg X.A X.stack s H Eg).tr pn xe) W) (hW : ∀ cls d σ' H', E cls d H' → W cls d σ' H') (hr : Room (k + 1) (X.A.deeper (envOfC qg sg s.heap.objs.size g cdg)))
    (hbody : ∀ (A : Around) (outer : List PySem.Env) (s : Shared) (H : Hp), Room k (A.deeper (lamEnv X scope s.heap.objs.size f c')) → PE (lamCx X A outer s H E scope f c') body tb)
    (hN : Ng[i]? = some a) (hv : Vis sg a) (hd : (a == ("__debug__" : Str)) = false := by decide) (hcd : (a == ("__classdict__" : Str)) = false := by decide) :
    PE ((cxOf CXg X.prog X.w X.K X.mg X.base Ng qg sg g cdg X.A X.stack s H Eg).tr pn xe) (.Call (.Name a p1) [] [] p2)
      (fun σZ HZ Q => σZ[i]? = some (some (.ref f)) ∧ HZ f = some (LamO f (lamOb X.env params body scope pm c' ctv)) ∧ HZ c' = some (CodeO c' (X.env.qual ++ "<lambda>")) ∧ tb σ HZ Q) := by
  refine ⟨fun pinsZ sZ σZ HZ Q IZ h => ?_⟩
  obtain ⟨hs, hf0, hc, ht⟩ := h
  refine wpAny_Call_Name_kw (thn ((pe_var (pos := p1) (i := i) hN hv hd hcd).run pinsZ sZ σZ HZ (fun v H1 => v = .ref f ∧ H1 = HZ) IZ ⟨.ref f, hs, rfl, rfl⟩) fun u s1 ⟨v, H1, I1, r1, q1⟩ => ?_)
  obtain ⟨ev, eH⟩ := q1
  subst ev
  rw [eH] at I1
  obtain rfl : u = Value.ref f := r1
  have of1 : s1.heap.get? f = some (PySem.W.kla_obj "<lambda>" (X.env.qual ++ "<lambda>") params body scope (cloFrom X.env.cells scope.names []) pm c' ctv) := (I1.hok f _ hf0).1
  refine PySem.W.callWith_F0 ⟨_, _, _, _, of1⟩ ?_
  have un : Un (frs X.stack) [] H HZ s.heap s1.heap := I1.base
  obtain ⟨⟨oc, vs, t, hoc, hdc, hvc⟩, _, _⟩ := I1.hok c' _ hc
  have rc : codeAny (model X.prog X.w) (X.A.deeper (envOfC qg sg s.heap.objs.size g cdg)) (.call (.ref f) ⟨[], []⟩) (CR (L2.CX X.prog X.w) (envOfC qg sg s.heap.objs.size g cdg :: X.stack) X.prog X.w HZ s1 Q E) s1 := by
    refine PySem.W.kla_callFunE hr.depth of1 rfl L.co L.gen rfl ⟨c', oc, vs, t, rfl, hoc, hdc, hvc⟩ ?_
    rw [hbind]
    refine wpAny_pure (wpAny_newFunctionEnv (fun y hy => (L.own y hy).2) (fun y hy => absurd hy (by simp)) (fun h₁ hns hsb => ⟨I1.nolimit.fresh _ hsb, ?_⟩) L.kind)
    show codeAny _ _ (.expr body (lamEnv X scope s1.heap.objs.size f c')) _ _
    have kp : ∀ b o, s1.heap.get? b = some o → h₁.get? b = some o := fun b o e => hsb.extBut b o (Nat.ne_of_lt (Heap.lt_size e)) (Heap.get?_push_of_some _ e)
    have J : Inv (lamCx X (X.A.deeper (envOfC qg sg s.heap.objs.size g cdg)) (envOfC qg sg s.heap.objs.size g cdg :: X.stack) s1 HZ E scope f c') [] σ HZ { s1 with heap := h₁, toks := s1.toks + ([] : List (Str × Value)).length } :=
      lam_start2 I L I1.env0 hr.hd un hns kp
    refine PySem.W.kla_codeExpr (wpAny_mono ((hbody _ _ s1 HZ (hr.deeper _)).run [] _ _ HZ Q J ht) (fun v s' hq => ?_) fun e s' hq => hq)
    obtain ⟨w', H', J', rv, q⟩ := hq
    exact ⟨w', H', J'.os, J'.bare, J'.base, J'.hok, rv, q⟩
  have hx : Passes (L2.CX X.prog X.w) ((cxOf CXg X.prog X.w X.K X.mg X.base Ng qg sg g cdg X.A X.stack s H Eg).tr pn xe) E := passes_call tk hW
  refine wpAny_call (codeAny_mono rc fun r s' hq => ?_)
  cases r with
  | error e => exact hx pinsZ σZ HZ s1 e s' I1 hq
  | ok fl =>
    cases fl with
    | ret u => exact I1.after hq
    | next => exact False.elim hq
    | brk => exact False.elim hq
    | cont => exact False.elim hq
/-- the def that calls what it got -/
def GivesToE (X : Cx) (Ng : List Str) (x : Str) (sg : Scope) (g : Addr) (cdg : Value) (bg : List Stmt) (a : Str) (q : Str) (TT : (XK → Hp → VK → Prop) → Hp → VK → Prop) : Prop :=
  ∀ (f c' : Addr) (fo : HO) (s : Shared) (H : Hp) (Q : VK) (tl : XK → Hp → VK → Prop),
    (∀ (W : WX) (pn : List (Addr × Obj)) (xe : Value → Shared → Prop) (E : XK) (p1 p2 : Pos), L2.Takes ((cxOf C8.CX0 X.prog X.w X.K X.mg X.base Ng x sg g cdg X.A X.stack s H C8.E0).tr pn xe) W → (∀ cls d σ' H', E cls d H' → W cls d σ' H') →
      PE ((cxOf C8.CX0 X.prog X.w X.K X.mg X.base Ng x sg g cdg X.A X.stack s H C8.E0).tr pn xe) (.Call (.Name a p1) [] [] p2) (fun σZ HZ Q => σZ[0]? = some (some (.ref f)) ∧ HZ f = some fo ∧ HZ c' = some (CodeO c' q) ∧ tl E HZ Q)) →
    H f = some fo → H c' = some (CodeO c' q) → TT tl H Q →
    ∃ t, PSs (cxOf C8.CX0 X.prog X.w X.K X.mg X.base Ng x sg g cdg X.A X.stack s H C8.E0).nox bg t ∧ t { nx := fun _ H' => Q .non H', rt := Q } (L2.start Ng [.ref f]) H
def tUnder (env : PySem.Env) (params : Arguments) (iw ik : Nat) (ls : List (Expr × Scope)) (TT : (XK → Hp → VK → Prop) → Hp → VK → Prop) (t : Nat → XK → TE) : TE := fun σ H Q =>
  ∃ (w0 : Addr) (fs : List Addr) (k : Nat) (f : Addr) (l : Expr × Scope), σ[iw]? = some (some (.ref w0)) ∧ H w0 = some (.lst (fs.map .ref)) ∧ σ[ik]? = some (some (.int k)) ∧ fs[k]? = some f ∧ ls[k]? = some l ∧ IsLam H env params f l ∧ TT (fun E H' Q' => t k E σ H' Q') H Q
theorem pe_under {TT : (XK → Hp → VK → Prop) → Hp → VK → Prop} {x a nw nk : Str} {iw ik : Nat} {g : Addr} {kr : Nat} {pg : Arguments} {bg : List Stmt} {sg : Scope} {dV kV doc pm cdv ct oc : Value} {an od : Option Addr} {osl : Array (Option Value)} {Ng : List Str}
    {params : Arguments} {ls : List (Expr × Scope)} {t : Nat → XK → TE} {p pw pk ps pos : Pos} (hg : Gl X x) (hm : X.mg x = some (.ref g)) (hk : PySem.W.keepIn X.K (.ref g) = true)
    (lk : X.K.lookup g = some ⟨oc, od, .func (PySem.W.fnOf x x pg bg sg dV kV doc pm an cdv ct), osl⟩) (hcg : PySem.W.codeIn X.K cdv x = true) (hb : L2.Binds X.K (PySem.W.fnOf x x pg bg sg dV kV doc pm an cdv ct) [a] []) (Sg : FnScope Ng [a] sg) (hNg : Ng[0]? = some a) (hva : Vis sg a)
    (hG : GivesToE X Ng x sg g cdv bg a (X.env.qual ++ "<lambda>") TT)
    (hw : PE X (.Name nw pw) (tVar iw)) (hkk : PE X (.Name nk pk) (tVar ik)) (hr : Room (kr + 2) X.A) (L : ∀ l ∈ ls, LamS X.env.scope l.2)
    (hbind : ∀ l ∈ ls, ∀ (q : Str) (cl : List (Str × Addr)) (pm cv ctv : Value), bindArgs (PySem.W.kla_fn "<lambda>" q params l.1 l.2 cl pm cv ctv) ⟨[], []⟩ = pure [])
    (hbody : ∀ (k : Nat) (l : Expr × Scope), ls[k]? = some l → ∀ (A : Around) (outer : List PySem.Env) (s : Shared) (H : Hp) (E : XK) (f c' : Addr), Room kr (A.deeper (lamEnv X l.2 s.heap.objs.size f c')) → PE (lamCx X A outer s H E l.2 f c') l.1 (t k E))
    (hs : PlainIx (.Name nk pk)) (hdb : (x == ("__debug__" : Str)) = false := by decide) (hd : (a == ("__debug__" : Str)) = false := by decide) (hcd : (a == ("__classdict__" : Str)) = false := by decide) :
    PE X (.Call (.Name x p) [.Subscript (.Name nw pw) (.Name nk pk) ps] [] pos) (tUnder X.env params iw ik ls TT t) := by
  refine ⟨fun pins s σ H Q I h => ?_⟩
  obtain ⟨w0, fs, k, f, l, e1, e2, e3, e4, e5, il, h⟩ := h
  obtain ⟨pm', c', ctv, hf, hco⟩ := il
  have hkl : k < fs.length := (List.getElem?_eq_some_iff.mp e4).1
  have at_ : L2.atI (fs.map V.ref) (k : Int) = some (.ref f) := by
    unfold L2.atI
    rw [List.length_map, ixN_of (by omega) (by omega)]
    simp [e4]
  refine wpAny_Call_Name_kw (ld_glob I hg hm ?_ hdb)
  refine PySem.W.callWith_K (h₀ := X.base) I.ok.mod.kin hk ?_ (by rfl) (by rfl)
  show wpAny _ _ (spliced ((false, eval (.Subscript (.Name nw pw) (.Name nk pk) ps) X.env) :: backTo pos (starEach [] X.env))) _ _ s
  refine Calls.spliced_cons (thn ((pe_ix (pos := ps) ix_seq hw hkk hs).run pins s σ H (fun v H1 => v = .ref f ∧ H1 = H) I ⟨.ref w0, e1, .int k, e3, .inl ⟨w0, _, k, .ref f, rfl, rfl, .inl (.inl e2), at_, rfl, rfl⟩⟩) fun u s1 ⟨v, H1, I1, r1, q1⟩ => ?_)
  obtain ⟨ev, eH⟩ := q1
  subst ev
  rw [eH] at I1
  obtain rfl : u = Value.ref f := r1
  refine Calls.spliced_nil ⟨I1.kIn, ?_⟩
  have hl : l ∈ ls := List.mem_of_getElem? e5
  have rc : codeAny (model X.prog X.w) X.A (.call (.ref g) ⟨[.ref f], []⟩) (CR C8.CX0 X.stack X.prog X.w H s1 Q C8.E0) s1 := by
    refine run_ofS (N := Ng) (ps := [a]) (us := [.ref f]) (vs := [.ref f]) lk hcg Sg hr I1.env0 (hb s1 [.ref f] I1.kIn rfl) (.cons rfl .nil) rfl fun hr' => ?_
    obtain ⟨t', ht', hq'⟩ := hG f c' _ s1 H Q (fun E H' Q' => t k E σ H' Q') (fun W pn xe E p1 p2 tk hW => pe_actE (i := 0) I1 (L l hl) (hbind l hl _ _ _ _ _) tk hW hr' (fun A outer s H hr2 => hbody k l e5 A outer s H E f c' hr2) hNg hva hd hcd) hf hco h
    exact ⟨t', ht'.nox, hq'⟩
  refine wpAny_call (codeAny_mono rc fun r s2 hq => ?_)
  cases r with
  | error e => exact (show False from hq).elim
  | ok fl =>
    cases fl with
    | ret u => exact I1.after hq
    | next => exact False.elim hq
    | brk => exact False.elim hq
    | cont => exact False.elim hq
end
end PV

/-! part PV140 -/
/-! PV140: isinstance of a caught exception, with a dict or without; the suite that tells its classes. -/
noncomputable section
namespace PV
open PySem PySem.W PySem.Spec PySem.Calls PyProof.Rows L2 LamX NdefX
section
variable {prog : Program} {w : World} {A : Around} {E : Value → Shared → Prop} {s : Shared} {K : Frag} {x D : Addr} {ox : Obj} {od : Option Obj}
theorem findObj_data {C : Addr} {name : Str} {a g : Value} (hc : (clsIn K C).isSome = true) (ha : findIn K (.ref C) name = some (some a)) (hg : specialIn K a "__get__" = some (some g)) (ht : takesIn K a = some true) : findObj K C od name = some (.bind g a) := by
  obtain ⟨cd, hc⟩ := Option.isSome_iff_exists.mp hc
  unfold findObj
  rw [hc, Option.bind_some, ha, Option.bind_some]
  simp [hg, ht]
theorem kin_classD {Q : Option Value → Shared → Prop} (C : ExcC K D) (X : K.In s.heap) (I : InstAt s.heap x ox D od) (h : Q (some (.ref D)) { s with toks := s.toks + 1 }) : wpAny (model prog w) A (getAttr? (.ref x) "__class__") Q E s := by
  have hf : findObj K D od "__class__" = some (.bind (.builtin "getset_descriptor.__get__") (.builtin "object.__class__")) := findObj_data (by obtain ⟨cd, hc, _⟩ := any_some C.hd; rw [hc]; rfl) C.ha C.hn C.ht
  obtain ⟨hp, g, d, t, os⟩ := s
  have L0 := I.type (M := model prog w)
  have L1 := looks_findIn (M := model prog w) X C.hg
  have L2 := looks_findIn (M := model prog w) X C.hk
  have L3 := looks_find (M := model prog w) X I hf
  have sub : Looks (model prog w) hp (isInstance (.ref x) (.type "BaseException")) true := L0.andThen (looks_subIn X C.hs)
  have hx0 : (false && onTheHeap (Value.builtin "BaseException.__getattribute__")) = false := rfl
  have hx2 : (Value.builtin "BaseException.__getattribute__" == Value.builtin "object.__getattribute__") = false := by decide +kernel
  have hx1 : (onTheHeap (Value.ref D) && Value.builtin "BaseException.__getattribute__" == Value.builtin "object.__getattribute__") = false := by rw [hx2]; rfl
  unfold getAttr? getAttrBy? getAttrBy
  refine wpAny_bind (wpAny_mkText (wpAny_bind (wpAny_attempt (wpAny_holding (wpAny_bind (L0.at (wpAny_bind (L1.at ?_))))))))
  show wpAny _ _ (if (onTheHeap (Value.ref D) && Value.builtin "BaseException.__getattribute__" == Value.builtin "object.__getattribute__") = true then _ else _) _ _ _
  rw [hx1, if_neg Bool.false_ne_true]
  unfold getAttrByItsOwn hookBefore
  refine wpAny_bind ?_
  rw [if_pos (show onTheHeap (Value.ref D) = true from rfl)]
  refine L2.at ?_
  refine wpAny_bind (wpAny_attempt (wpAny_holding ?_))
  unfold callGetattribute
  rw [hx0, if_neg Bool.false_ne_true]
  unfold boundAndCalled
  rw [PySem.F.excAttr_ValueError.ga.bind (.ref x)]
  refine wpAny_bind (wpAny_pure ?_)
  show wpAny _ _ (call (.builtin "BaseException.__getattribute__") [.ref x, .str "__class__" t]) _ _ _
  refine wpAny_call (codeAny_call_builtin PySem.F.excAttr_ValueError.ga.plain PySem.F.entry_bexc_ga ?_)
  refine @check_slot (model prog w) _ _ ⟨hp, g, d, t + 1, os⟩ "BaseException.__getattribute__" "BaseException" "__getattribute__" (.ref x) [.str "__class__" t] [] _ (by decide +kernel) (by decide +kernel) sub (PySem.F.args_bexc_ga (.ref x) (.str "__class__" t)) ?_
  unfold Builtin.«object.__getattribute__»
  refine wpAny_bind (wpAny_of_eq (a := ((Value.ref x : Value), [Value.str "__class__" t])) (by first | rfl | (simp only [slotArgs]; rfl)) ?_)
  refine wpAny_bind (wpAny_pure (wpAny_bind (L0.at (wpAny_bind (L3.at ?_)))))
  show wpAny _ _ (holding [Value.builtin "object.__class__"] (call (.builtin "getset_descriptor.__get__") [.builtin "object.__class__", .ref x, .ref D]) >>= ret) _ _ _
  refine wpAny_bind (wpAny_holding (wpAny_call (class_get (s := ⟨hp, g, d, t + 1, os⟩) (ox := ox) (od := od) X I C.hm ?_)))
  refine wpAny_pure ?_
  show wpAny _ _ (handedOut (.ref D)) _ _ _
  rw [handedOut_of (v := .ref D) rfl]
  first
    | exact wpAny_pure (wpAny_pure h)
    | exact wpAny_pure h
    | exact wpAny_pure (wpAny_bind (wpAny_pure (wpAny_pure h)))
theorem kitx_excD (C : ExcC K D) : KitX K (.ref x) (.ref D) (fun h => InstAt h x ox D od) where
  ty := fun _ _ _ I => I.type
  it := fun _ _ X _ => by
    obtain ⟨cdD, hcD, _⟩ := any_some C.hd
    unfold clsIn at hcD
    split at hcD
    · rename_i c' d' cd' sl' ho
      intro A' Q' E' s' k q
      unfold isType loadHead
      exact wpAny_bind (wpAny_loadPart (k _ _ (X _ _ ho)) (wpAny_pure q))
    · cases hcD
  ne := fun h tp dd its n sl X htp => by
    obtain ⟨cdD, hcD, _⟩ := any_some C.hd
    refine Bool.eq_false_iff.mpr fun q => ?_
    have e : D = tp := Value.ref.inj (beq_iff_eq.mp q)
    subst e
    unfold clsIn at hcD
    split at hcD
    · rename_i c' d' cd' sl' ho
      have z := (X _ _ ho).symm.trans htp
      cases z
    · cases hcD
  ca := fun X I k => kin_classD C X I k
end
/-- isinstance(e, c), e the exception that the suite holds, its dict at d -/
def rIsD (K : PySem.W.Frag) (D a : Addr) (d : Option Addr) : List V → Hp → VK → Prop := fun xs H Q => ∃ (c : V) (cv : Value) (b : Bool), xs = [.ref a, c] ∧ (∀ u, RelV c u → u = cv) ∧ PySem.W.kitOne K (.ref D) cv = some b ∧ (∀ dd, d = some dd → ∃ fs, H dd = some (.xd fs)) ∧ Q (.bl b) H
theorem call_isD {X : Cx} {a D : Addr} {d : Option Addr} {oe : Obj} {pn : List (Addr × Obj)} (C : ExcC X.K D) (hz : Zc (.ref D) d oe) (hf : ∃ vs, oe.data = .fields vs) : CallR (X.suite a ((a, oe) :: pn)) (.builtin "isinstance") (rIsD X.K D a d) := by
  intro pins s σ H xs us Q I r h
  obtain ⟨c, cv, b, rfl, hcv, e, hd, q⟩ := h
  cases r with
  | cons rx rr =>
    cases rr with
    | cons rt rr =>
      cases rr
      cases rx
      have ec := hcv _ rt
      subst ec
      obtain ⟨hget, _⟩ := I.pin (a, oe) (List.mem_append.mpr (.inl List.mem_cons_self))
      obtain ⟨vs, hv⟩ := hf
      have J : ∃ od, PySem.W.InstAt s.heap a oe D od := by
        obtain ⟨oc, od, oda, osl⟩ := oe
        obtain ⟨h1, h2⟩ := hz
        dsimp only at h1 h2 hv
        subst h1 h2 hv
        cases od with
        | none => exact ⟨none, hget, rfl, rfl, trivial⟩
        | some dd =>
          obtain ⟨fs, hdd⟩ := hd dd rfl
          obtain ⟨mA, ⟨o', es, ep, e', _⟩, _⟩ := I.hok dd _ hdd
          exact ⟨some o', hget, rfl, rfl, e'⟩
      obtain ⟨od, J⟩ := J
      exact PySem.W.kia_one (kitx_excD C) I.kIn J e (fun z => nomatch z) fun tk => ⟨.bl b, H, I.kept (t' := tk) fun _ _ z => z, rfl, q⟩
/-- what the exception's class is, and that it answers so -/
def IsOf (K : PySem.W.Frag) (cls : Value) (d : Option Addr) (H : Hp) (cvs : List Value) (bs : List Bool) : Prop := ∃ D, cls = .ref D ∧ ExcC K D ∧ (∀ dd, d = some dd → ∃ fs, H dd = some (.xd fs)) ∧ cvs.map (PySem.W.kitOne K (.ref D)) = bs.map some
theorem IsOf.up {K : PySem.W.Frag} {cls : Value} {d : Option Addr} {H : Hp} {cvs : List Value} {bs : List Bool} {p : Addr} {o : HO} (h : IsOf K cls d H cvs bs) (hp : H p = none) : IsOf K cls d (upd H p o) cvs bs := by
  obtain ⟨D, h1, h2, h3, h4⟩ := h
  exact ⟨D, h1, h2, fun dd e => by
    obtain ⟨fs, hd⟩ := h3 dd e
    exact ⟨fs, by rw [upd_ne (ne_of_none hd hp)]; exact hd⟩, h4⟩
theorem IsOf.app {K : PySem.W.Frag} {cls : Value} {d : Option Addr} {H : Hp} {c1 c2 : List Value} {b : List Bool} (h : IsOf K cls d H (c1 ++ c2) b) : IsOf K cls d H c1 (b.take c1.length) ∧ IsOf K cls d H c2 (b.drop c1.length) := by
  obtain ⟨D, h1, h2, h3, h4⟩ := h
  rw [List.map_append] at h4
  have e1 : (b.take c1.length).map some = c1.map (PySem.W.kitOne K (.ref D)) := by
    rw [List.map_take, ← h4, List.take_left' (by simp)]
  have e2 : (b.drop c1.length).map some = c2.map (PySem.W.kitOne K (.ref D)) := by
    rw [List.map_drop, ← h4, List.drop_left' (by simp)]
  exact ⟨⟨D, h1, h2, h3, e1.symm⟩, ⟨D, h1, h2, h3, e2.symm⟩⟩
abbrev isCall (n x : Str) (q : Pos × Pos × Pos × Pos) : Expr := .Call (.Name "isinstance" q.1) [.Name n q.2.1, .Name x q.2.2.1] [] q.2.2.2
def tIs (K : PySem.W.Frag) (ie : Nat) (a : Addr) (cls : Value) (d : Option Addr) (cv : Value) : TE := fun σ H Q => σ[ie]? = some (some (.ref a)) ∧ ∃ b, IsOf K cls d H [cv] [b] ∧ Q (.bl b) H
/-- a name of a class -/
structure IsC (X : Cx) (x : Str) (cv : Value) : Prop where
  go : ∃ v : V, (∀ u, RelV v u → u = cv) ∧ ∀ pos, PE X (.Name x pos) (tC v)
section
variable {X : Cx} {a : Addr} {oe : Obj} {cls : Value} {d : Option Addr} {pn : List (Addr × Obj)} {n : Str} {ie : Nat}
theorem pe_isE {x : Str} {cv : Value} {q : Pos × Pos × Pos × Pos} (hz : Zc cls d oe) (hf : ∃ vs, oe.data = .fields vs) (hg : Gl X "isinstance") (hm : X.mg "isinstance" = none) (hN : X.N[ie]? = some n) (hv : Vis X.env.scope n) (hc : IsC (X.suite a ((a, oe) :: pn)) x cv)
    (hd : (n == ("__debug__" : Str)) = false := by decide) (hcd : (n == ("__classdict__" : Str)) = false := by decide) : PE (X.suite a ((a, oe) :: pn)) (isCall n x q) (tIs X.K ie a cls d cv) := by
  refine ⟨fun pins s σ H Q I h => ?_⟩
  obtain ⟨hs, b, ⟨D, rfl, C, h3, h4⟩, hq⟩ := h
  obtain ⟨v, hcv, hp⟩ := hc.go
  have h4 : PySem.W.kitOne X.K (.ref D) cv = some b := by simpa using h4
  exact (pe_callB (X := X.suite a ((a, oe) :: pn)) (p := q.1) (pos := q.2.2.2) (call_isD C hz hf) hg hm (by decide +kernel) (pa_cons (pe_var (pos := q.2.1) hN hv hd hcd) (pa_cons (hp q.2.2.1) pa_nil))).run pins s σ H Q I ⟨.ref a, hs, v, cv, b, rfl, hcv, h4, h3, hq⟩
def tIss (K : PySem.W.Frag) (ie : Nat) (a : Addr) (cls : Value) (d : Option Addr) (cvs : List Value) : TA := fun σ H Q => σ[ie]? = some (some (.ref a)) ∧ ∃ bs, IsOf K cls d H cvs bs ∧ Q (bs.map .bl) H
theorem pa_isE (hz : Zc cls d oe) (hf : ∃ vs, oe.data = .fields vs) (hg : Gl X "isinstance") (hm : X.mg "isinstance" = none) (hN : X.N[ie]? = some n) (hv : Vis X.env.scope n)
    (hd : (n == ("__debug__" : Str)) = false := by decide) (hcd : (n == ("__classdict__" : Str)) = false := by decide) : ∀ (cs : List (Str × Value × (Pos × Pos × Pos × Pos))), (∀ c ∈ cs, IsC (X.suite a ((a, oe) :: pn)) c.1 c.2.1) → PA (X.suite a ((a, oe) :: pn)) (cs.map fun c => isCall n c.1 c.2.2) (tIss X.K ie a cls d (cs.map fun c => c.2.1))
  | [], _ => imA pa_nil fun σ H Q ⟨_, bs, ⟨D, _, _, _, h4⟩, q⟩ => by
    cases bs with
    | nil => exact q
    | cons b bs => simp at h4
  | c :: cs, hc => imA (pa_cons (pe_isE hz hf hg hm hN hv (hc c (by simp)) hd hcd) (pa_isE hz hf hg hm hN hv hd hcd cs fun c' h => hc c' (by simp [h]))) fun σ H Q ⟨hs, bs, ho, q⟩ => by
    cases bs with
    | nil =>
      obtain ⟨D, _, _, _, h4⟩ := ho
      simp at h4
    | cons b bs =>
      have := IsOf.app (c1 := [c.2.1]) (b := b :: bs) ho
      exact ⟨hs, b, this.1, hs, bs, this.2, q⟩
/-- the suite: m = [..]; m = m + [..]; return m + [..] -/
def tUnd (K : PySem.W.Frag) (ie : Nat) (a : Addr) (cls : Value) (d : Option Addr) (c1 c2 c3 : List Value) : TS := fun E σ H => (ie < σ.length → σ[ie]? = some (some (.ref a))) ∧ ∃ b1 b2 b3, IsOf K cls d H (c1 ++ c2 ++ c3) (b1 ++ b2 ++ b3) ∧ b1.length = c1.length ∧ b2.length = c2.length ∧ b1.length + b2.length + b3.length ≤ 1000 ∧
  ∀ p1 p2 p3 p4 p5, H p1 = none → (upd H p1 (.lst (b1.map .bl))) p2 = none → (upd (upd H p1 (.lst (b1.map .bl))) p2 (.lst (b2.map .bl))) p3 = none → (upd (upd (upd H p1 (.lst (b1.map .bl))) p2 (.lst (b2.map .bl))) p3 (.lst ((b1 ++ b2).map .bl))) p4 = none →
    (upd (upd (upd (upd H p1 (.lst (b1.map .bl))) p2 (.lst (b2.map .bl))) p3 (.lst ((b1 ++ b2).map .bl))) p4 (.lst (b3.map .bl))) p5 = none →
    E.rt (.ref p5) (upd (upd (upd (upd (upd H p1 (.lst (b1.map .bl))) p2 (.lst (b2.map .bl))) p3 (.lst ((b1 ++ b2).map .bl))) p4 (.lst (b3.map .bl))) p5 (.lst ((b1 ++ b2 ++ b3).map .bl)))
theorem pss_und {m : Str} {im : Nat} {s1 s2 s3 : List (Str × Value × (Pos × Pos × Pos × Pos))} {q1 q2 q3 q4 q5 q6 q7 q8 q9 q10 q11 q12 : Pos} (hne : ie ≠ im) (hz : Zc cls d oe) (hf : ∃ vs, oe.data = .fields vs) (hg : Gl X "isinstance") (hm : X.mg "isinstance" = none) (hNd : X.N.Nodup) (hN : X.N[ie]? = some n) (hv : Vis X.env.scope n) (hM : X.N[im]? = some m) (hml : X.env.scope.names.lookup m = some .local)
    (h1 : ∀ c ∈ s1, IsC (X.suite a ((a, oe) :: pn)) c.1 c.2.1) (h2 : ∀ c ∈ s2, IsC (X.suite a ((a, oe) :: pn)) c.1 c.2.1) (h3 : ∀ c ∈ s3, IsC (X.suite a ((a, oe) :: pn)) c.1 c.2.1)
    (hd : (n == ("__debug__" : Str)) = false := by decide) (hcd : (n == ("__classdict__" : Str)) = false := by decide) (hd2 : (m == ("__debug__" : Str)) = false := by decide) (hcd2 : (m == ("__classdict__" : Str)) = false := by decide) :
    PSs (X.suite a ((a, oe) :: pn)) [.Assign [.Name m q1] (.List (s1.map fun c => isCall n c.1 c.2.2) q2) q3, .Assign [.Name m q4] (.BinOp (.Name m q5) .Add (.List (s2.map fun c => isCall n c.1 c.2.2) q6) q7) q8, .Return (some (.BinOp (.Name m q9) .Add (.List (s3.map fun c => isCall n c.1 c.2.2) q10) q11)) q12] (tUnd X.K ie a cls d (s1.map fun c => c.2.1) (s2.map fun c => c.2.1) (s3.map fun c => c.2.1)) := by
  have vm : PE (X.suite a ((a, oe) :: pn)) (.Name m q5) (tVar im) := pe_var hM (.inl hml) hd2 hcd2
  have vm2 : PE (X.suite a ((a, oe) :: pn)) (.Name m q9) (tVar im) := pe_var hM (.inl hml) hd2 hcd2
  have base := pss_cons (ps_set (pos := q3) (pos' := q1) (X := X.suite a ((a, oe) :: pn)) hNd hM (.inl hml) (pe_lst (pos := q2) (pa_isE (X := X) hz hf hg hm hN hv hd hcd s1 h1)) rfl (.inr hml)) (pss_cons (ps_set (pos := q8) (pos' := q4) (X := X.suite a ((a, oe) :: pn)) hNd hM (.inl hml) (pe_op (pos := q7) op_cat vm (pe_lst (pos := q6) (pa_isE (X := X) hz hf hg hm hN hv hd hcd s2 h2))) rfl (.inr hml)) (pss_one (ps_ret (pos := q12) (pe_op (pos := q11) op_cat vm2 (pe_lst (pos := q10) (pa_isE (X := X) hz hf hg hm hN hv hd hcd s3 h3))))))
  refine ⟨fun pins s σ H E I h => base.run pins s σ H E I ?_⟩
  have hlen : σ.length = X.N.length := I.len
  clear base I
  obtain ⟨hs, b1, b2, b3, ho, l1, l2, lz, fin⟩ := h
  have hs := hs (by rw [hlen]; exact (List.getElem?_eq_some_iff.mp hN).1)
  have hmi : im < σ.length := by rw [hlen]; exact (List.getElem?_eq_some_iff.mp hM).1
  have sz : 1000 ≤ sizeLine := by rw [sizeLine_eq]; decide
  obtain ⟨o12, o3⟩ := ho.app
  have e12 : (s1.map (fun c => c.2.1) ++ s2.map fun c => c.2.1).length = (b1 ++ b2).length := by rw [List.length_append, List.length_append, l1, l2]
  rw [e12, List.take_left' rfl] at o12
  rw [e12, List.drop_left' rfl] at o3
  obtain ⟨o1, o2⟩ := o12.app
  rw [List.take_left' l1] at o1
  rw [List.drop_left' l1] at o2
  refine ⟨hs, b1, o1, by simp; omega, fun p1 n1 => ?_⟩
  have i1 : (σ.set im (some (.ref p1)))[ie]? = some (some (.ref a)) := by rw [List.getElem?_set_ne (Ne.symm hne)]; exact hs
  refine ⟨.ref p1, by rw [List.getElem?_set_self hmi], i1, b2, o2.up n1, by simp; omega, fun p2 n2 => ?_⟩
  have ne12 : p1 ≠ p2 := ne_of_none upd_same n2
  refine ⟨p1, p2, _, _, rfl, rfl, by rw [upd_ne ne12, upd_same], upd_same, by simp; omega, fun p3 n3 => ?_⟩
  have hm2 : im < (σ.set im (some (.ref p1))).length := by simpa using hmi
  have i2 : ((σ.set im (some (.ref p1))).set im (some (.ref p3)))[ie]? = some (some (.ref a)) := by rw [List.getElem?_set_ne (Ne.symm hne)]; exact i1
  rw [← List.map_append]
  refine ⟨.ref p3, by rw [List.getElem?_set_self hm2], i2, b3, ((o3.up n1).up n2).up n3, by simp; omega, fun p4 n4 => ?_⟩
  have ne34 : p3 ≠ p4 := ne_of_none upd_same n4
  refine ⟨p3, p4, _, _, rfl, rfl, by rw [upd_ne ne34, upd_same], upd_same, by simp; omega, fun p5 n5 => ?_⟩
  rw [← List.map_append]
  exact fin p1 p2 p3 p4 p5 n1 n2 n3 n4 n5
end
end PV

/-! part PV142 -/
/-! PV142: the def that tells a caught exception's classes; ws = [lambda: .., ..]; k = e; if x(ws[k]) != d: .. -/
noncomputable section
namespace PV
open PySem PySem.W PySem.Spec PySem.Calls PyProof.Rows L2 LamX NdefX
/-- the suite's answer -/
def UndQ (K : PySem.W.Frag) (cls : Value) (d : Option Addr) (c1 c2 c3 : List Value) (Q : VK) (H : Hp) : Prop := ∃ b1 b2 b3, IsOf K cls d H (c1 ++ c2 ++ c3) (b1 ++ b2 ++ b3) ∧ b1.length = c1.length ∧ b2.length = c2.length ∧ b1.length + b2.length + b3.length ≤ 1000 ∧
  ∀ p1 p2 p3 p4 p5, H p1 = none → (upd H p1 (.lst (b1.map .bl))) p2 = none → (upd (upd H p1 (.lst (b1.map .bl))) p2 (.lst (b2.map .bl))) p3 = none → (upd (upd (upd H p1 (.lst (b1.map .bl))) p2 (.lst (b2.map .bl))) p3 (.lst ((b1 ++ b2).map .bl))) p4 = none →
    (upd (upd (upd (upd H p1 (.lst (b1.map .bl))) p2 (.lst (b2.map .bl))) p3 (.lst ((b1 ++ b2).map .bl))) p4 (.lst (b3.map .bl))) p5 = none →
    Q (.ref p5) (upd (upd (upd (upd (upd H p1 (.lst (b1.map .bl))) p2 (.lst (b2.map .bl))) p3 (.lst ((b1 ++ b2).map .bl))) p4 (.lst (b3.map .bl))) p5 (.lst ((b1 ++ b2 ++ b3).map .bl)))
def TTu (K : PySem.W.Frag) (PF : Addr) (c1 c2 c3 : List Value) : (XK → Hp → VK → Prop) → Hp → VK → Prop := fun tl H Q =>
  tl (fun cls d H' => PySem.W.exmOne K cls (.ref PF) = some true ∧ UndQ K cls d c1 c2 c3 Q H') H (fun _ H' => ([] : List V).length ≤ sizeLine ∧ ∀ p, H' p = none → Q (.ref p) (upd H' p (.lst [])))
abbrev isL (n : Str) (s : List (Str × Value × (Pos × Pos × Pos × Pos))) : List Expr := s.map fun c => isCall n c.1 c.2.2
abbrev cvL (s : List (Str × Value × (Pos × Pos × Pos × Pos))) : List Value := s.map fun c => c.2.1
theorem und_gives {X : Cx} {Ng : List Str} {x a q px n m : Str} {ie im : Nat} {sg : Scope} {g PF : Addr} {cdg : Value} {s1 s2 s3 : List (Str × Value × (Pos × Pos × Pos × Pos))} {p1 p2 p3 p8 p9 p10 np hp q1 q2 q3 q4 q5 q6 q7 q8 q9 q10 q11 q12 : Pos}
    (hcx : ∀ X' : Cx, X'.K = X.K → X'.mg = X.mg → X'.env.scope = sg → Names X' px (.ref PF) ∧ Gl X' "isinstance" ∧ X'.mg "isinstance" = none ∧ ∀ c ∈ s1 ++ s2 ++ s3, IsC X' c.1 c.2.1)
    (hNd : Ng.Nodup) (hie : Ng[ie]? = some n) (him : Ng[im]? = some m) (hne : ie ≠ im) (hnl : sg.names.lookup n = some .local) (hml : sg.names.lookup m = some .local) (h0 : ∀ f : Addr, (L2.start Ng [V.ref f])[0]? = some (some (V.ref f)))
    (hd : (n == ("__debug__" : Str)) = false) (hcd : (n == ("__classdict__" : Str)) = false) (hd2 : (m == ("__debug__" : Str)) = false) (hcd2 : (m == ("__classdict__" : Str)) = false) :
    GivesToE X Ng x sg g cdg [.Try [.Expr (.Call (.Name a p1) [] [] p2) p3] [.ExceptHandler (some (.Name px np)) (some n) [.Assign [.Name m q1] (.List (isL n s1) q2) q3, .Assign [.Name m q4] (.BinOp (.Name m q5) .Add (.List (isL n s2) q6) q7) q8, .Return (some (.BinOp (.Name m q9) .Add (.List (isL n s3) q10) q11)) q12] hp] [] [] p8, .Return (some (.List [] p9)) p10] a q (TTu X.K PF (cvL s1) (cvL s2) (cvL s3)) := by
  intro f c' fo s H Q tl act hf hc h
  have hc1 := hcx (cxOf C8.CX0 X.prog X.w X.K X.mg X.base Ng x sg g cdg X.A X.stack s H C8.E0).nox rfl rfl rfl
  refine ⟨_, pss_cons (L2.ps_try_as (X := (cxOf C8.CX0 X.prog X.w X.K X.mg X.base Ng x sg g cdg X.A X.stack s H C8.E0).nox) (i := ie) (x := px) (n := n) (c := .ref PF) (Wout := fun _ _ _ _ => False) (np := np) (pos := p8) (pos' := hp)
      (tb := fun W D σ H => ∃ Ech : XK, (∀ cls d σ' H', Ech cls d H' → W cls d σ' H') ∧ σ[0]? = some (some (.ref f)) ∧ H f = some fo ∧ H c' = some (CodeO c' q) ∧ tl Ech H fun _ H' => D.nx σ H') (ts := fun a cls d => tUnd X.K ie a cls d (cvL s1) (cvL s2) (cvL s3))
      rfl rfl hNd hie hnl hc1.1 L2.takes0 (fun W pn xe tk _ => ?_) (fun a oe cls d pn hz hv => ?_)) (pss_one (ps_ret (pos := p10) (pe_lst (pos := p9) pa_nil))), ?_⟩
  · refine ⟨fun pins s' σ H' D I h' => ?_⟩
    obtain ⟨Ech, hW, h1, h2, h3, h4⟩ := h'
    have hp := act W pn xe Ech p1 p2 tk hW
    have hq := pss_one (ps_expr (pos := p3) hp)
    exact hq.run pins s' σ H' D I ⟨h1, h2, h3, h4⟩
  · have hcs := hcx ((cxOf C8.CX0 X.prog X.w X.K X.mg X.base Ng x sg g cdg X.A X.stack s H C8.E0).nox.suite a ((a, oe) :: pn)) rfl rfl rfl
    exact pss_und (X := (cxOf C8.CX0 X.prog X.w X.K X.mg X.base Ng x sg g cdg X.A X.stack s H C8.E0).nox) hne hz hv hc1.2.1 hc1.2.2.1 hNd hie (.inl hnl) him hml (fun c h => hcs.2.2.2 c (by simp [h])) (fun c h => hcs.2.2.2 c (by simp [h])) (fun c h => hcs.2.2.2 c (by simp [h])) hd hcd hd2 hcd2
  · refine ⟨fun cls d H' => PySem.W.exmOne X.K cls (.ref PF) = some true ∧ UndQ X.K cls d (cvL s1) (cvL s2) (cvL s3) Q H', fun cls d σ' H' hh => ⟨true, hh.1, fun _ b _ => ⟨fun hl => ?_, hh.2⟩, fun z => nomatch z⟩, h0 f, hf, hc, h⟩
    rw [List.length_set] at hl
    rw [List.getElem?_set_self hl]
/-- the def that tells them -/
structure Under (prog : Program) (w : World) (K : PySem.W.Frag) (mg : Str → Option Value) (base : Heap) (x : Str) (PF : Addr) (c1 c2 c3 : List Value) : Prop where
  go : ∃ (g : Addr) (pg : Arguments) (bg : List Stmt) (sg : Scope) (dV kV doc pm cdv ct oc : Value) (an od : Option Addr) (osl : Array (Option Value)) (Ng : List Str) (a : Str),
    mg x = some (.ref g) ∧ PySem.W.keepIn K (.ref g) = true ∧ K.lookup g = some ⟨oc, od, .func (PySem.W.fnOf x x pg bg sg dV kV doc pm an cdv ct), osl⟩ ∧ PySem.W.codeIn K cdv x = true ∧
    L2.Binds K (PySem.W.fnOf x x pg bg sg dV kV doc pm an cdv ct) [a] [] ∧ FnScope Ng [a] sg ∧ Ng[0]? = some a ∧ Vis sg a ∧ (a == ("__debug__" : Str)) = false ∧ (a == ("__classdict__" : Str)) = false ∧
    ∀ (X : Cx) (q : Str), X.prog = prog → X.w = w → X.K = K → X.mg = mg → X.base = base → GivesToE X Ng x sg g cdv bg a q (TTu K PF c1 c2 c3)
theorem und_of {prog : Program} {w : World} {K : PySem.W.Frag} {mg : Str → Option Value} {base : Heap} {Ng : List Str} {x a px n m : Str} {ie im : Nat} {f PF : Addr} {fd : FuncData} {params : Arguments} {scope : Scope} {s1 s2 s3 : List (Str × Value × (Pos × Pos × Pos × Pos))} {p1 p2 p3 p8 p9 p10 np hp q1 q2 q3 q4 q5 q6 q7 q8 q9 q10 q11 q12 : Pos}
    (F : FunD K x x params [.Try [.Expr (.Call (.Name a p1) [] [] p2) p3] [.ExceptHandler (some (.Name px np)) (some n) [.Assign [.Name m q1] (.List (isL n s1) q2) q3, .Assign [.Name m q4] (.BinOp (.Name m q5) .Add (.List (isL n s2) q6) q7) q8, .Return (some (.BinOp (.Name m q9) .Add (.List (isL n s3) q10) q11)) q12] hp] [] [] p8, .Return (some (.List [] p9)) p10] scope [] [] f fd)
    (hm : mg x = some (.ref f)) (S : FnScope Ng [a] scope) (hN0 : Ng[0]? = some a) (hv : Vis scope a) (bd : L2.Binds K fd [a] []) (hd0 : (a == ("__debug__" : Str)) = false) (hcd0 : (a == ("__classdict__" : Str)) = false)
    (hcx : ∀ X' : Cx, X'.K = K → X'.mg = mg → X'.env.scope = scope → Names X' px (.ref PF) ∧ Gl X' "isinstance" ∧ X'.mg "isinstance" = none ∧ ∀ c ∈ s1 ++ s2 ++ s3, IsC X' c.1 c.2.1)
    (hNd : Ng.Nodup) (hie : Ng[ie]? = some n) (him : Ng[im]? = some m) (hne : ie ≠ im) (hnl : scope.names.lookup n = some .local) (hml : scope.names.lookup m = some .local) (h0 : ∀ f : Addr, (L2.start Ng [V.ref f])[0]? = some (some (V.ref f)))
    (hd : (n == ("__debug__" : Str)) = false) (hcd : (n == ("__classdict__" : Str)) = false) (hd2 : (m == ("__debug__" : Str)) = false) (hcd2 : (m == ("__classdict__" : Str)) = false) : Under prog w K mg base x PF (cvL s1) (cvL s2) (cvL s3) := by
  obtain ⟨oc, od, dV, kV, doc, pm, an, cdv, ct, osl, rfl, lk, hcd', _, _⟩ := F.ex
  refine ⟨f, params, _, scope, dV, kV, doc, pm, cdv, ct, oc, an, od, osl, Ng, a, hm, F.kp, lk, hcd', bd, S, hN0, hv, hd0, hcd0, fun X q e1 e2 e3 e4 e5 => ?_⟩
  subst e1 e2 e3 e4 e5
  exact und_gives hcx hNd hie him hne hnl hml h0 hd hcd hd2 hcd2
/-! the small terms -/
def noneS (i : Nat) : S := .sem fun _ ρ => match ρ[i]? with
  | some none => pure (.nx, ρ)
  | _ => no
def underM (bsOf : Nat → Option (List Bool)) (m : M KD) : M KD := fun s => match m s with
  | .ok _ s' => .ok (.fr 1, .lst []) s'
  | .ex c _ s' => match bsOf c with
    | some bs => .ok (.fr 1, .lst (bs.map .bl)) s'
    | none => .no
  | .no => .no
def pickE (P : Pr) (bodies : List E) (ρ : Env) : Option (Nat × D) → Option (M KD)
  | some (_, .int k) => if 0 ≤ k then (bodies[k.toNat]?).map fun e => evE P e ρ else none
  | _ => none
def underE (ik : Nat) (bodies : List E) (bsOf : Nat → Option (List Bool)) : E := .sem fun P ρ => match pickE P bodies ρ (ρ[ik]?.getD none) with
  | some m => underM bsOf m
  | none => no
theorem SL.setNone {G : Gx} {w : Wd} {H : Hp} {u : Option V} : ∀ {i : Nat} {σ : L2.St} {ρ : Env} {Os : List (List Addr)}, SL G w H σ ρ Os → ρ[i]? = some none → SL G w H (σ.set i u) ρ Os
  | 0, _, _, _, .no h, _ => .no h
  | 0, _, _, _, .so _ _, e => by simp at e
  | _ + 1, _, _, _, .no h, e => .no (SL.setNone h (by simpa using e))
  | _ + 1, _, _, _, .so hv h, e => .so hv (SL.setNone h (by simpa using e))
  | _, _, _, _, .nil, e => by simp at e
theorem LamAll.po {G : Gx} {w w' : Wd} {H H' : Hp} {st : Sto} {env : PySem.Env} {params : Arguments} (s : St G w H st) (p : Po w H w' H') : ∀ {fs : List Addr} {ls : List (Expr × Scope)}, LamAll H env params fs ls → LamAll H' env params fs ls
  | [], [], _ => trivial
  | _ :: _, _ :: _, h => ⟨h.1.po s p, LamAll.po s p h.2⟩
  | [], _ :: _, h => h.elim
  | _ :: _, [], h => h.elim
end PV

/-! part PV143 -/
/-! PV143: the rule for ws = [lambda: .., ..]; k = e; if x(ws[k]) != d: .. -/
noncomputable section
namespace PV
open PySem PySem.W PySem.Spec PySem.Calls PyProof.Rows L2 LamX NdefX
theorem evSs_split {P : Pr} {s : S} {ss : List S} {ρ : Env} {st : Sto} {G : Gx} {w0 wL : Wd} {H0 HL : Hp} {W : WX} {E : Ends} (o : OutS G w0 H0 wL HL (evSs P (s :: ss) ρ st) W E) : OutS G w0 H0 wL HL (evS P s ρ st) W { E with nx := fun σ H => ∃ w ρ Os st, At G w0 H0 wL HL w H σ ρ Os st ∧ OutS G w0 H0 wL HL (evSs P ss ρ st) W E } := by
  rw [evSs] at o
  rcases o.bind with ⟨⟨f, ρ1⟩, st1, e, o⟩ | ⟨c, p, st1, e, o⟩
  · rw [e]
    cases f with
    | nx => exact fun σ1 w1 H1 Os1 a1 => ⟨w1, ρ1, Os1, st1, a1, o⟩
    | bk => exact o
    | ct => exact o
    | rt d => exact o
  · rw [e]
    exact o
/-- what the classes say -/
def ClsSay (G : Gx) (K : PySem.W.Frag) (PF : Addr) (cvs : List Value) (bsOf : Nat → Option (List Bool)) : Prop := ∀ c bs, bsOf c = some bs → PySem.W.exmOne K (.ref (G.ex c)) (.ref PF) = some true ∧ ExcC K (G.ex c) ∧ cvs.map (PySem.W.kitOne K (.ref (G.ex c))) = bs.map some
section
variable {X : Cx} {G : Gx} {P : Pr}
theorem newL {w : Wd} {H : Hp} {Os : List (List Addr)} {H0 : Hp} {st : Sto} {bs : List Bool} {p : Addr} (s : St G w H st) (hp : H p = none) (h0 : H0 p = none) : KR G Os w (upd H p (.lst (bs.map .bl))) H0 (.fr 1, .lst (bs.map .bl)) (.ref p) := by
  have f := s.wf.free hp
  have all : ∀ bs' : List Bool, VRs G w (upd H p (.lst (bs.map .bl))) 0 [] (bs'.map .bl) (bs'.map .bl) := by
    intro bs'
    induction bs' with
    | nil => exact .nil
    | cons b bs' ih => exact .cons (O := []) (O' := []) rfl (.zero (FR.bl b)) ih
  exact ⟨[p], .lst upd_same f.1 f.2.1 (all bs), by simp, fun a z => by
    obtain rfl : a = p := by simpa using z
    exact ⟨h0, f.2.2⟩⟩
theorem At.new {w0 w wL : Wd} {H0 H HL : Hp} {σ : L2.St} {ρ : Env} {Os : List (List Addr)} {st : Sto} {p : Addr} {o : HO} (a : At G w0 H0 wL HL w H σ ρ Os st) (hp : H p = none) : At G w0 H0 wL HL w (upd H p o) σ ρ Os st := a.po' ((Po.refl w H).new hp) (a.g.s.new hp)
theorem pick_some {P : Pr} {bodies : List PV.E} {ρ : Env} {x : Option (Nat × D)} {m : M KD} (h : pickE P bodies ρ x = some m) : ∃ (l k : Nat) (e : PV.E), x = some (l, .int k) ∧ bodies[k]? = some e ∧ m = evE P e ρ := by
  unfold pickE at h
  split at h
  · rename_i l k
    by_cases hk : 0 ≤ k
    · rw [if_pos hk] at h
      cases e : bodies[k.toNat]? with
      | none => rw [e] at h; cases h
      | some b =>
        rw [e] at h
        cases h
        exact ⟨l, k.toNat, b, by rw [Int.toNat_of_nonneg hk], e, rfl⟩
    · rw [if_neg hk] at h
      cases h
  · cases h
theorem dss_under {x nw nk : Str} {iw ik kr : Nat} {PF : Addr} {c1 c2 c3 : List Value} {params : Arguments} {ls : List (Expr × Scope × Pos)} {bodies : List PV.E} {bsOf : Nat → Option (List Bool)} {pk pd : Expr} {ek ed : PV.E} {pa : List Stmt} {sa : List S} {p1 p2 p3 p4 p5 q1 q2 q3 q4 q5 q6 q7 : Pos}
    (hK : X.K = G.K) (hU : Under X.prog X.w X.K X.mg X.base x PF c1 c2 c3) (hg : Gl X x) (hr : Room (kr + 2) X.A) (hcl : ClsSay G X.K PF (c1 ++ c2 ++ c3) bsOf) (hcz : c1.length + c2.length + c3.length ≤ 1000)
    (hN : X.N.Nodup) (hiw : X.N[iw]? = some nw) (hwl : X.env.scope.names.lookup nw = some .local) (hik : X.N[ik]? = some nk) (hkl : Loc X.env.scope nk) (hkf : X.fn nk = true ∨ X.env.scope.names.lookup nk = some .local) (hne : iw ≠ ik)
    (hl : ∀ l ∈ ls, TabAt X G.T l.2.2 "<lambda>" ∧ LamS X.env.scope l.2.1) (hz : ls.length ≤ 1000)
    (hbind : ∀ l ∈ ls, ∀ (q : Str) (cl : List (Str × Addr)) (pm cv ctv : Value), bindArgs (PySem.W.kla_fn "<lambda>" q params l.1 l.2.1 cl pm cv ctv) ⟨[], []⟩ = pure [])
    (hbody : ∀ (k : Nat) (l : Expr × Scope × Pos) (e : PV.E), ls[k]? = some l → bodies[k]? = some e → ∀ (A : Around) (outer : List PySem.Env) (s : Shared) (H : Hp) (E : XK) (f c' : Addr), Room kr (A.deeper (lamEnv X l.2.1 s.heap.objs.size f c')) → DE (lamCx X A outer s H E l.2.1 f c') G P l.1 e)
    (hlb : ls.length = bodies.length) (hk : DE X G P pk ek) (hd : DE X G P pd ed) (ha : DSs X G P pa sa) (hu : X.A.units + 80 < cLine)
    (hsk : swapsWith pk (some (.Name nk p4)) p5.line X.env = pure false := by rfl) (hdef : defaultsOf params X.env = ([], []) := by rfl) (hm : behindInMarks .NotEq pd = false := by rfl)
    (hdw : (nw == ("__debug__" : Str)) = false := by decide) (hcw : (nw == ("__classdict__" : Str)) = false := by decide) (hdk : (nk == ("__debug__" : Str)) = false := by decide) (hck : (nk == ("__classdict__" : Str)) = false := by decide) (hdx : (x == ("__debug__" : Str)) = false := by decide) :
    DSs X G P [.Assign [.Name nw p1] (.List (ls.map fun l => .Lambda params l.1 l.2.1 l.2.2) p2) p3, .Assign [.Name nk p4] pk p5, .If (.Compare (.Call (.Name x q1) [.Subscript (.Name nw q2) (.Name nk q3) q4] [] q5) [.NotEq] [pd] q6) pa [] q7]
      [noneS iw, .set ik 0 ek, .ite (.cmp .NotEq (underE ik bodies bsOf) ed) sa []] := fun W w0 H0 wL HL tk => by
  obtain ⟨g, pg, bg, sg, dV, kV, doc, pm, cdv, ct, oc, an, od, osl, Ng, a, hmx, hkx, lk, hcg, hb, Sg, hNg, hva, hda, hca, hG⟩ := hU.go
  -- each body, or nothing
  have hbody2 : ∀ (k : Nat) (l : Expr × Scope), (ls.map fun l => (l.1, l.2.1))[k]? = some l → ∀ (A : Around) (outer : List PySem.Env) (s : Shared) (H : Hp) (E : XK) (f c' : Addr), Room kr (A.deeper (lamEnv X l.2 s.heap.objs.size f c')) → PE (lamCx X A outer s H E l.2 f c') l.1 (tE G P (fun cls d _ H => E cls d H) (bodies.getD k (.lit .non))) := fun k l e A outer s H E f c' hr' => by
    rw [List.getElem?_map] at e
    cases e1 : ls[k]? with
    | none => rw [e1] at e; cases e
    | some l' =>
      rw [e1] at e
      cases e
      have hk1 : k < bodies.length := by rw [← hlb]; exact (List.getElem?_eq_some_iff.mp e1).1
      have e2 : bodies[k]? = some (bodies.getD k (.lit .non)) := by simp [List.getD, hk1]
      exact hbody k l' _ e1 e2 A outer s H E f c' hr' _ (TkM.l (takes_of rfl rfl rfl rfl))
  have pu := pe_under (p := q1) (ps := q4) (pos := q5) (nw := nw) (nk := nk) (pw := q2) (pk := q3) (ls := ls.map fun l => (l.1, l.2.1)) (t := fun k E => tE G P (fun cls d _ H => E cls d H) (bodies.getD k (.lit .non))) (params := params) hg hmx hkx lk hcg hb Sg hNg hva (hG X (X.env.qual ++ "<lambda>") rfl rfl rfl rfl rfl)
    (pe_var hiw (.inl hwl) hdw hcw) (pe_var hik (hkl.elim .inl fun z => .inr (.inl z)) hdk hck) hr (fun l h => by obtain ⟨l', h', rfl⟩ := List.mem_map.mp h; exact (hl l' h').2) (fun l h => by obtain ⟨l', h', rfl⟩ := List.mem_map.mp h; exact hbind l' h') hbody2 (fun _ _ => rfl) hdx hda hca
  refine imss (pss_cons (ps_set (pos := p3) (pos' := p1) hN hiw (.inl hwl) (pe_lst (pos := p2) (pa_lams hdef ls hl)) rfl (.inr hwl)) (pss_cons (ps_set (pos := p5) (pos' := p4) hN hik hkl (hk W tk) hsk hkf) (pss_cons (ps_if (pos := q7) (pt_cmpR (pos := q6) (opr_cmp hu .NotEq) pu (hd W tk) hm) (ha W w0 H0 wL HL tk) (dss_nil (G := G) W w0 H0 wL HL tk)) (dss_nil (G := G) W w0 H0 wL HL tk)))) fun E σ H ⟨w, ρ, Os, st, at0, o⟩ => ?_
  have hρ : ρ[iw]? = some none ∧ OutS G w0 H0 wL HL (evSs P [.set ik 0 ek, .ite (.cmp .NotEq (underE ik bodies bsOf) ed) sa []] ρ st) W E := by
    rw [evSs, M.run_bind] at o
    unfold noneS at o
    rw [evS] at o
    cases e : ρ[iw]? with
    | none => rw [e] at o; exact o.elim
    | some z =>
      rw [e] at o
      cases z with
      | none => exact ⟨rfl, o⟩
      | some ld => exact o.elim
  clear o
  obtain ⟨hρ, o⟩ := hρ
  have o1 := evSs_split o
  rw [evS] at o1
  refine ⟨at0.g.s.wf.tb, fun fs H1 gr al => ⟨?_, fun p hp => ?_⟩⟩
  · rw [List.length_map, al.len, List.length_map]
    exact small hz
  have hp0 := gr.none p hp
  have fr0 := at0.g.s.wf.free hp0
  have e12 : ExtN H1 (upd H1 p (.lst (fs.map .ref))) := fun b o e n => by rw [upd_ne (ne_of_none e hp)]; exact e
  have gr2 : Gr G H (upd H1 p (.lst (fs.map .ref))) := ⟨gr.ext.trans e12, fun b e => gr.none b (upd_none e), tabsN_new hp gr.tabs⟩
  have a1' := at0.po' gr2.po (at0.g.s.gr gr2)
  have a1 : At G w0 H0 wL HL w (upd H1 p (.lst (fs.map .ref))) (σ.set iw (some (.ref p))) ρ Os st := ⟨a1'.po, a1'.mo, ⟨a1'.g.s, a1'.g.sl.setNone hρ, a1'.g.nd, a1'.g.ap⟩, a1'.nw⟩
  have al2 := al.ext e12
  have hwi : iw < σ.length := by
    rw [at0.g.sl.lens]
    exact (List.getElem?_eq_some_iff.mp hρ).1
  refine tE_S a1 o1 fun x st1 v w2 H3 a2 p2 k2 o2 => ?_
  have al3 := al2.po a1.g.s p2
  have hp3 : H3 p = some (.lst (fs.map .ref)) := p2.kn p _ upd_same fr0.1 fr0.2.1 fr0.2.2 fun ps z => by cases z
  obtain ⟨w3, ρ3, Os3, st3, a3, o3⟩ := set_fin a1 a2 k2 o2
  have o4 := evSs_split o3
  rw [evS, evB_cmp] at o4
  simp only [M.assoc] at o4
  have i1 : ((σ.set iw (some (V.ref p))).set ik (some v))[iw]? = some (some (.ref p)) := by
    rw [List.getElem?_set_ne (Ne.symm hne), List.getElem?_set_self hwi]
  unfold underE at o4
  rw [evE] at o4
  cases hpk : pickE P bodies ρ3 (ρ3[ik]?.getD none) with
  | none => rw [hpk] at o4; exact o4.elim
  | some m =>
    rw [hpk] at o4
    dsimp only at o4
    obtain ⟨l0, kn, e, hx, hbk, rfl⟩ := pick_some hpk
    have hρ3 : ρ3[ik]? = some (some (l0, .int kn)) := by
      cases z : ρ3[ik]? with
      | none => rw [z] at hx; cases hx
      | some z' => rw [z] at hx; exact congrArg some hx
    obtain ⟨v', O', e1, e2, r⟩ := a3.g.sl.get hρ3
    have ev : v' = .int kn := by
      cases r with
      | zero h => cases h; rfl
      | nc _ h => cases h; rfl
    subst ev
    have hkn : kn < ls.length := by rw [hlb]; exact (List.getElem?_eq_some_iff.mp hbk).1
    have hls : (ls.map fun l => (l.1, l.2.1))[kn]? = some ((ls[kn]).1, (ls[kn]).2.1) := by
      rw [List.getElem?_map, List.getElem?_eq_getElem hkn]
      rfl
    obtain ⟨f, hf1, hf2⟩ := al3.at_ hls
    -- the answer, compared
    have fin : ∀ (bs : List Bool) (st4 : Sto) (w4 : Wd) (H4 : Hp) (p5 : Addr), At G w0 H0 wL HL w4 H4 ((σ.set iw (some (V.ref p))).set ik (some v)) ρ3 Os3 st4 → H4 p5 = none →
        OutS G w0 H0 wL HL (((evE P ed ρ3 >>= fun y => cmpD .NotEq (.lst (bs.map .bl)) y.2) >>= fun b => if b then evSs P sa ρ3 else evSs P [] ρ3) st4) W { E with nx := fun σ H => ∃ w ρ Os st, At G w0 H0 wL HL w H σ ρ Os st ∧ OutS G w0 H0 wL HL (evSs P [] ρ st) W E } →
        tE G P W ed ((σ.set iw (some (V.ref p))).set ik (some v)) (upd H4 p5 (.lst (bs.map .bl))) fun y H6 => rCmp X.K .NotEq (.ref p5) y H6 fun z H7 => ∃ k, z = .bl k ∧ if k = true then tSs G P W w0 H0 wL HL sa { E with nx := fun σ H => tSs G P W w0 H0 wL HL [] E σ H } ((σ.set iw (some (V.ref p))).set ik (some v)) H7 else tSs G P W w0 H0 wL HL [] { E with nx := fun σ H => tSs G P W w0 H0 wL HL [] E σ H } ((σ.set iw (some (V.ref p))).set ik (some v)) H7 := fun bs st4 w4 H4 p5 a4 n5 o5 => by
      have k5 : KR G Os3 w4 (upd H4 p5 (.lst (bs.map .bl))) H4 (.fr 1, .lst (bs.map .bl)) (.ref p5) := newL a4.g.s n5 n5
      have a5 : At G w0 H0 wL HL w4 (upd H4 p5 (.lst (bs.map .bl))) ((σ.set iw (some (V.ref p))).set ik (some v)) ρ3 Os3 st4 := a4.new n5
      rw [M.assoc] at o5
      refine tE_S a5 o5 fun y st5 u w6 H6 a6 p6 k6 o6 => ?_
      rcases cmp_run (o := .NotEq) (k5.po a5.g.s.wf p6 a5.g.ap) (k6.base (newPo (w := w4) n5)) with ⟨c, ec, qc⟩ | ec
      · rw [ec] at o6
        rw [hK]
        refine qc _ ⟨c, rfl, ?_⟩
        cases c with
        | true => exact ⟨w6, ρ3, Os3, st5, a6, o6⟩
        | false => exact ⟨w6, ρ3, Os3, st5, a6, o6⟩
      · rw [ec] at o6
        exact o6.elim
    refine ⟨p, fs, kn, f, _, i1, hp3, e1, hf1, hls, hf2, w3, ρ3, Os3, st3, a3.g, ?_⟩
    have hgd : bodies.getD kn (.lit .non) = e := by
      rw [List.getD_eq_getElem?_getD, hbk]
      rfl
    rw [hgd]
    rw [M.run_bind] at o4
    unfold underM at o4
    cases q : evE P e ρ3 st3 with
    | ok y st4 =>
      rw [q] at o4
      dsimp only at o4
      intro b w4 H4 p4' s4 _
      exact ⟨by simp, fun p5 n5 => fin [] st4 w4 H4 p5 (a3.po' p4' s4) n5 (by rw [M.assoc]; exact o4)⟩
    | no =>
      rw [q] at o4
      exact o4.elim
    | ex c pp st4 =>
      rw [q] at o4
      dsimp only at o4
      cases hbs : bsOf c with
      | none => rw [hbs] at o4; exact o4.elim
      | some bs =>
        rw [hbs] at o4
        dsimp only at o4
        obtain ⟨h1, h2, h3⟩ := hcl c bs hbs
        intro d w4 H4 p4' s4 xr
        have a4 := a3.po' p4' s4
        have lb : bs.length = c1.length + c2.length + c3.length := by
          have := congrArg List.length h3
          simpa [Nat.add_assoc] using this.symm
        have eb : bs.take c1.length ++ (bs.drop c1.length).take c2.length ++ (bs.drop c1.length).drop c2.length = bs := by rw [List.append_assoc, List.take_append_drop, List.take_append_drop]
        have l1 : (bs.take c1.length).length = c1.length := by rw [List.length_take]; omega
        have l2 : ((bs.drop c1.length).take c2.length).length = c2.length := by rw [List.length_take, List.length_drop]; omega
        have l3 : ((bs.drop c1.length).drop c2.length).length = c3.length := by rw [List.length_drop, List.length_drop]; omega
        generalize bs.take c1.length = b1 at eb l1
        generalize (bs.drop c1.length).take c2.length = b2 at eb l2
        generalize (bs.drop c1.length).drop c2.length = b3 at eb l3
        refine ⟨h1, b1, b2, b3, ⟨G.ex c, rfl, h2, fun dd e => ?_, by rw [eb]; exact h3⟩, l1, l2, by omega, fun r1 r2 r3 r4 r5 n1 n2 n3 n4 n5 => ?_⟩
        · rcases xr with ⟨_, hd⟩ | ⟨dd', vv, hd, hh, _⟩
          · rw [hd] at e; cases e
          · rw [hd] at e
            cases e
            exact ⟨_, hh⟩
        · have a8 := (((a4.new (o := .lst (b1.map .bl)) n1).new (o := .lst (b2.map .bl)) n2).new (o := .lst ((b1 ++ b2).map .bl)) n3).new (o := .lst (b3.map .bl)) n4
          rw [eb]
          exact fin bs st4 w4 _ r5 a8 n5 (by rw [M.assoc]; exact o4)
/-- the lambdas, each with its small term -/
inductive LamOks (X : Cx) (G : Gx) (P : Pr) (kr : Nat) (params : Arguments) : List Expr → List PV.E → Prop
  | nil : LamOks X G P kr params [] []
  | cons {body : Expr} {scope : Scope} {pos : Pos} {e : PV.E} {es : List Expr} {bs : List PV.E} (t : TabAt X G.T pos "<lambda>") (l : LamS X.env.scope scope) (hb : ∀ (q : Str) (cl : List (Str × Addr)) (pm cv ctv : Value), bindArgs (PySem.W.kla_fn "<lambda>" q params body scope cl pm cv ctv) ⟨[], []⟩ = pure [])
      (d : ∀ (A : Around) (outer : List PySem.Env) (s : Shared) (H : Hp) (E : XK) (f c' : Addr), Room kr (A.deeper (lamEnv X scope s.heap.objs.size f c')) → DE (lamCx X A outer s H E scope f c') G P body e) (r : LamOks X G P kr params es bs) : LamOks X G P kr params (.Lambda params body scope pos :: es) (e :: bs)
theorem LamOks.out {kr : Nat} {params : Arguments} : ∀ {es : List Expr} {bodies : List PV.E}, LamOks X G P kr params es bodies → ∃ ls : List (Expr × Scope × Pos), es = (ls.map fun l => .Lambda params l.1 l.2.1 l.2.2) ∧ ls.length = bodies.length ∧ (∀ l ∈ ls, (TabAt X G.T l.2.2 "<lambda>" ∧ LamS X.env.scope l.2.1) ∧ ∀ (q : Str) (cl : List (Str × Addr)) (pm cv ctv : Value), bindArgs (PySem.W.kla_fn "<lambda>" q params l.1 l.2.1 cl pm cv ctv) ⟨[], []⟩ = pure []) ∧
    ∀ (k : Nat) (l : Expr × Scope × Pos) (e : PV.E), ls[k]? = some l → bodies[k]? = some e → ∀ (A : Around) (outer : List PySem.Env) (s : Shared) (H : Hp) (E : XK) (f c' : Addr), Room kr (A.deeper (lamEnv X l.2.1 s.heap.objs.size f c')) → DE (lamCx X A outer s H E l.2.1 f c') G P l.1 e
  | _, _, .nil => ⟨[], rfl, rfl, fun _ h => (nomatch h), fun k l e h => by simp at h⟩
  | _, _, @LamOks.cons _ _ _ _ _ body scope pos e es bs t l hb d r => by
    obtain ⟨ls, h1, h2, h3, h4⟩ := r.out
    refine ⟨(body, scope, pos) :: ls, by rw [h1]; rfl, by simp [h2], fun l' h => ?_, fun k l' e' e1 e2 => ?_⟩
    · rcases List.mem_cons.mp h with rfl | h
      · exact ⟨⟨t, l⟩, hb⟩
      · exact h3 l' h
    · cases k with
      | zero =>
        simp at e1 e2
        subst e1 e2
        exact d
      | succ k =>
        simp at e1 e2
        exact h4 k l' e' e1 e2
theorem dss_underL {x nw nk : Str} {iw ik kr : Nat} {PF : Addr} {c1 c2 c3 : List Value} {params : Arguments} {es : List Expr} {bodies : List PV.E} {bsOf : Nat → Option (List Bool)} {pk pd : Expr} {ek ed : PV.E} {pa : List Stmt} {sa : List S} {p1 p2 p3 p4 p5 q1 q2 q3 q4 q5 q6 q7 : Pos}
    (hK : X.K = G.K) (hU : Under X.prog X.w X.K X.mg X.base x PF c1 c2 c3) (hg : Gl X x) (hr : Room (kr + 2) X.A) (hcl : ClsSay G X.K PF (c1 ++ c2 ++ c3) bsOf) (hcz : c1.length + c2.length + c3.length ≤ 1000)
    (hN : X.N.Nodup) (hiw : X.N[iw]? = some nw) (hwl : X.env.scope.names.lookup nw = some .local) (hik : X.N[ik]? = some nk) (hkl : Loc X.env.scope nk) (hkf : X.fn nk = true ∨ X.env.scope.names.lookup nk = some .local) (hne : iw ≠ ik)
    (hl : LamOks X G P kr params es bodies) (hz : bodies.length ≤ 1000) (hk : DE X G P pk ek) (hd : DE X G P pd ed) (ha : DSs X G P pa sa) (hu : X.A.units + 80 < cLine)
    (hsk : swapsWith pk (some (.Name nk p4)) p5.line X.env = pure false := by rfl) (hdef : defaultsOf params X.env = ([], []) := by rfl) (hm : behindInMarks .NotEq pd = false := by rfl)
    (hdw : (nw == ("__debug__" : Str)) = false := by decide) (hcw : (nw == ("__classdict__" : Str)) = false := by decide) (hdk : (nk == ("__debug__" : Str)) = false := by decide) (hck : (nk == ("__classdict__" : Str)) = false := by decide) (hdx : (x == ("__debug__" : Str)) = false := by decide) :
    DSs X G P [.Assign [.Name nw p1] (.List es p2) p3, .Assign [.Name nk p4] pk p5, .If (.Compare (.Call (.Name x q1) [.Subscript (.Name nw q2) (.Name nk q3) q4] [] q5) [.NotEq] [pd] q6) pa [] q7]
      [noneS iw, .set ik 0 ek, .ite (.cmp .NotEq (underE ik bodies bsOf) ed) sa []] := by
  obtain ⟨ls, rfl, h2, h3, h4⟩ := hl.out
  exact dss_under hK hU hg hr hcl hcz hN hiw hwl hik hkl hkf hne (fun l h => (h3 l h).1) (by omega) (fun l h => (h3 l h).2) h4 h2 hk hd ha hu hsk hdef hm hdw hcw hdk hck hdx
end
end PV

/-! part PV144 -/
/-! PV144: the facts of the classes, read off by computing; the plain side of PV143's terms. -/
noncomputable section
namespace PV
open PySem PySem.W PySem.Spec PySem.Calls PyProof.Rows L2 LamX NdefX
theorem isC_glob {X : Cx} {x : Str} {C : Addr} (hg : Gl X x) (hm : X.mg x = some (.ref C)) (hd : (x == ("__debug__" : Str)) = false := by decide) : IsC X x (.ref C) := ⟨.ref C, fun u r => r, fun _ => pe_glob hg hm rfl hd⟩
theorem isC_ty {X : Cx} {x : Str} {T : String} (hg : Gl X x) (hm : X.mg x = none) (hv : bootBuiltins x = some (.type T)) (hn : x ≠ "__name__" := by decide) (hd : (x == ("__debug__" : Str)) = false := by decide) : IsC X x (.type T) := ⟨.ty T, fun u r => r, fun _ => pe_bltn hg hm hv rfl hn hd⟩
def excCB (K : PySem.W.Frag) (D : Addr) : Bool := decide (findIn K (.ref D) "__getattribute__" = some (some (.builtin "BaseException.__getattribute__"))) && (decide (findIn K (.ref D) "__getattr__" = some none) && (decide (subIn K (.ref D) (.type "BaseException") = some true) && (hasDictIn K D &&
  (decide (findIn K (.ref D) "__class__" = some (some (.builtin "object.__class__"))) && (decide (specialIn K (.builtin "object.__class__") "__get__" = some (some (.builtin "getset_descriptor.__get__"))) && (decide (takesIn K (.builtin "object.__class__") = some true) && decide (mroIn K D (.type "object") = some true)))))))
theorem excCB_ok {K : PySem.W.Frag} {D : Addr} (h : excCB K D = true) : ExcC K D := by
  unfold excCB at h
  simp only [Bool.and_eq_true, decide_eq_true_eq] at h
  obtain ⟨h1, h2, h3, h4, h5, h6, h7, h8⟩ := h
  exact ⟨h1, h2, h3, h4, h5, h6, h7, h8⟩
def clsSayB (K : PySem.W.Frag) (ex : Nat → Addr) (PF : Addr) (cvs : List Value) (l : List (Nat × List Bool)) : Bool := l.all fun q => decide (PySem.W.exmOne K (.ref (ex q.1)) (.ref PF) = some true) && (excCB K (ex q.1) && decide (cvs.map (PySem.W.kitOne K (.ref (ex q.1))) = q.2.map some))
theorem lookup_memN {β : Type} : ∀ {l : List (Nat × β)} {c : Nat} {b : β}, l.lookup c = some b → (c, b) ∈ l
  | (d, u) :: r, c, b, h => by
    rw [List.lookup_cons] at h
    cases e : c == d with
    | true =>
      rw [e] at h
      cases h
      rw [beq_iff_eq.mp e]
      exact List.mem_cons_self
    | false =>
      rw [e] at h
      exact List.mem_cons_of_mem _ (lookup_memN h)
theorem clsSay_of {G : Gx} {K : PySem.W.Frag} {PF : Addr} {cvs : List Value} {l : List (Nat × List Bool)} (h : clsSayB K G.ex PF cvs l = true) : ClsSay G K PF cvs fun c => l.lookup c := fun c bs e => by
  have := List.all_eq_true.mp h _ (lookup_memN e)
  simp only [Bool.and_eq_true, decide_eq_true_eq] at this
  exact ⟨this.1, excCB_ok this.2.1, this.2.2⟩
section
variable {P : Pr} {ρ : Env} {st : Sto} {X : Nat → D → Sto → Prop}
theorem wp_noneS {i : Nat} {Q : Fl × Env → Sto → Prop} (h : ρ[i]? = some none) (q : Q (.nx, ρ) st) : Wp (evS P (noneS i) ρ) st Q X := by
  unfold noneS
  rw [evS, h]
  exact q
theorem wp_underE {ik k l : Nat} {bodies : List E} {bsOf : Nat → Option (List Bool)} {e : E} {Q : KD → Sto → Prop} (h : ρ[ik]? = some (some (l, .int k))) (hb : bodies[k]? = some e) (q : Wp (evE P e ρ) st (fun _ s => Q (.fr 1, .lst []) s) fun c _ s => ∃ bs, bsOf c = some bs ∧ Q (.fr 1, .lst (bs.map .bl)) s) : Wp (evE P (underE ik bodies bsOf) ρ) st Q X := by
  unfold underE
  rw [evE]
  have e1 : pickE P bodies ρ (ρ[ik]?.getD none) = some (evE P e ρ) := by
    rw [h]
    show pickE P bodies ρ (some (l, .int k)) = _
    unfold pickE
    simp [hb]
  rw [e1]
  dsimp only
  unfold Wp underM at *
  cases z : evE P e ρ st with
  | ok a s => rw [z] at q; exact q
  | ex c p s =>
    rw [z] at q
    obtain ⟨bs, h1, h2⟩ := q
    dsimp only
    rw [h1]
    exact h2
  | no => rw [z] at q; exact q
end
end PV

/-! part K21a -/
noncomputable section

namespace PV.L_k21_refusals_apart
open PySem PySem.Spec PyProof.Rows L2 LamX NdefX PV
def top (i : Nat) : Stmt := PySem.Challenge.pw_pavehall_k21_refusals_apart.main.body.getD i (.Pass ⟨0, 0, 0, 0⟩)
abbrev st_round_area : Stmt := top 12
def N_round_area : List Str := ["across"]
def at_round_area : He.Defn := ("round_area", none)
abbrev st_bears_of : Stmt := top 15
def N_bears_of : List Str := ["kind", "name", "most"]
theorem nd_d_bears_of : (N_bears_of).Nodup := by decide +kernel
def at_bears_of : He.Defn := ("bears_of", none)
abbrev st_Bed_init : Stmt := PV.methAt (top 16) 0
def N_Bed_init : List Str := ["self", "layers", "ground", "kind", "depth", "layer"]
theorem nd_d_Bed_init : (N_Bed_init).Nodup := by decide +kernel
def at_Bed_init : He.Defn := ("Bed", some "__init__")
abbrev st_Bed_pressures : Stmt := PV.methAt (top 16) 2
def N_Bed_pressures : List Str := ["self", "load", "side", "found", "here", "kind", "depth"]
theorem nd_d_Bed_pressures : (N_Bed_pressures).Nodup := by decide +kernel
def at_Bed_pressures : He.Defn := ("Bed", some "pressures")
abbrev st_Bed_check : Stmt := PV.methAt (top 16) 3
def N_Bed_check : List Str := ["self", "load", "side", "kind", "press"]
theorem nd_d_Bed_check : (N_Bed_check).Nodup := by decide +kernel
def at_Bed_check : He.Defn := ("Bed", some "check")
abbrev st_read_line : Stmt := top 20
def N_read_line : List Str := ["text", "words", "one", "found", "sign"]
theorem nd_d_read_line : (N_read_line).Nodup := by decide +kernel
def at_read_line : He.Defn := ("read_line", none)
abbrev st_Desk_init : Stmt := PV.methAt (top 23) 0
def N_Desk_init : List Str := ["self"]
def at_Desk_init : He.Defn := ("Desk", some "__init__")
abbrev st_Desk_undo : Stmt := PV.methAt (top 23) 5
def N_Desk_undo : List Str := ["self", "deed"]
def at_Desk_undo : He.Defn := ("Desk", some "undo")
abbrev st_closed_off : Stmt := top 25
def N_closed_off : List Str := ["start", "steps", "let", "off"]
theorem nd_d_closed_off : (N_closed_off).Nodup := by decide +kernel
def at_closed_off : He.Defn := ("closed_off", none)
abbrev st_letters_long : Stmt := top 27
def N_letters_long : List Str := ["text", "wide", "gap", "most", "whole", "sign"]
theorem nd_d_letters_long : (N_letters_long).Nodup := by decide +kernel
def at_letters_long : He.Defn := ("letters_long", none)
abbrev st_Picture_init : Stmt := PV.methAt (top 29) 0
def N_Picture_init : List Str := ["self", "rows", "row", "sign"]
theorem nd_d_Picture_init : (N_Picture_init).Nodup := by decide +kernel
def at_Picture_init : He.Defn := ("Picture", some "__init__")
abbrev st__law_dice : Stmt := top 31
def N__law_dice : List Str := ["cell"]
def at__law_dice : He.Defn := ("_law_dice", none)
abbrev st__law_roll : Stmt := top 32
def N__law_roll : List Str := ["dice", "many", "found"]
theorem nd_d__law_roll : (N__law_roll).Nodup := by decide +kernel
def at__law_roll : He.Defn := ("_law_roll", none)
abbrev st__law_rounds : Stmt := top 33
def N__law_rounds : List Str := ["script", "most", "cells", "cell"]
theorem nd_d__law_rounds : (N__law_rounds).Nodup := by decide +kernel
def at__law_rounds : He.Defn := ("_law_rounds", none)
abbrev st__law_under : Stmt := top 34
def N__law_under : List Str := ["what", "e", "some"]
def at__law_under : He.Defn := ("_law_under", none)
abbrev st_law : Stmt := top 35
def N_law : List Str := ["script", "dice", "whats", "k", "desk", "many", "j"]
theorem nd_d_law : (N_law).Nodup := by decide +kernel
def at_law : He.Defn := ("law", none)
/-! the small terms -/
def hdT : Nat → Nat → Option D
  | _, _ => none
def S_round_area : List S := [.ite (.cmp .Lt (.var 0) (.lit (.int 0))) [.raise 1 [.lit (.str "below nought")]] [], cutS]
def S_bears_of : List S := [.for_ (.tp [.nm 1, .nm 2]) .seq [.gcon 0] [.ite (.cmp .Eq (.var 1) (.var 0)) [.ret (.var 2)] []], .raise 3 [.var 0]]
def S_Bed_init : List S := [.ite (.gen .any (.cmp .Lt (.var 4) (.lit (.int 1))) (.tp [.nm 3, .nm 4]) .seq [.var 1] []) [.raise 2 [.lit (.str "no layer")]] [], .for_ (.tp [.nm 3, .nm 4]) .seq [.var 1] [.exp (.call 1 [.var 3])], .exp (.call 1 [.var 2]), .setf 0 (.var 0) 0 (.bi .tuple [.lc (.bi .tuple [.var 5]) (.nm 5) .seq [.var 1] []]), .setf 0 (.var 0) 1 (.var 2)]
def S_Bed_pressures : List S := [.ite (.orr (.cmp .Lt (.var 1) (.lit (.int 0))) (.cmp .Lt (.var 2) (.lit (.int 1)))) [.raise 1 [.lit (.str "no load")]] [], .par 3 1 4 0 (.lst []) (.bin .Mult (.lit (.int 2)) (.var 2)), .for_ (.tp [.nm 5, .nm 6]) .seq [.bin .Add (.fld 0 (.var 0) 0) (.tup [.tup [.fld 0 (.var 0) 1, .lit (.int 0)]])] [.app 3 (.tup [.var 5, .bin .Sub (.lit (.int 0)) (.bin .FloorDiv (.bin .Sub (.lit (.int 0)) (.bin .Mult (.lit (.int 4)) (.var 1))) (.bin .Mult (.var 4) (.var 4)))]), .aug 4 .Add (.bin .Mult (.lit (.int 2)) (.var 6))], .ret (.bi .tuple [.var 3])]
def S_Bed_check : List S := [.ite (.gen .any (.cmp .Gt (.var 4) (.call 1 [.var 3])) (.tp [.nm 3, .nm 4]) .seq [.meth 0 3 (.var 0) [.var 1, .var 2]] []) [.raise 6 [.lit (.str "it sinks")]] [], cutS]
def S_read_line : List S := [.set 1 0 (splitE (.var 0) (.lit (.str " "))), .ite (.cmp .NotEq (.bi .len [.var 1]) (.lit (.int 4))) [(raiseB 7 (.lit (.int 0)))] [], cutS]
def S_Desk_init : List S := [.setf 1 (.var 0) 0 (.lit (.str "1 yard laid 9\n2 lane laid 4\n3 yard cracked 2\n3 yard mended 1")), .setf 1 (.var 0) 1 (.lst []), .setf 1 (.var 0) 2 (.lst [])]
def S_Desk_undo : List S := [.ite (.cmp .Eq (.fld 1 (.var 0) 1) (.lst [])) [.raise 8 [.lit (.str "nothing to undo")]] [], cutS]
def S_closed_off : List S := [.set 3 0 (.bi .sum [.var 1]), .ite (.cmp .Gt (.bi .abs [.var 3]) (.var 2)) [.raise 5 [.lit (.str "it doesn't close")]] [], cutS]
def S_letters_long : List S := [.ite (.gen .any (.cmp .NotIn (.var 5) (.lit (.str "abcdefghijklmnopqrstuvwxyz"))) (.nm 5) .chr [.var 0] []) [.raise 3 [.lit (.str "no letter")]] [], .set 4 0 (.bin .Add (.bin .Mult (.bi .len [.var 0]) (.var 1)) (.bin .Mult (.bi .max2 [.lit (.int 0), .bin .Sub (.bi .len [.var 0]) (.lit (.int 1))]) (.var 2))), .ite (.cmp .Gt (.var 4) (.var 3)) [.raise 4 [.lit (.str "too long")]] [], cutS]
def S_Picture_init : List S := [.ite (.orr (.cmp .Eq (.bi .len [.var 1]) (.lit (.int 0))) (.orr (.cmp .Eq (.idx (.var 1) (.lit (.int 0))) (.lit (.str ""))) (.gen .any (.cmp .NotEq (.bi .len [.var 2]) (.bi .len [.idx (.var 1) (.lit (.int 0))])) (.nm 2) .seq [.var 1] []))) [.raise 2 [.lit (.str "no picture")]] [], cutS]
def S__law_dice : List S := [.ite (.cmp3 (.bin .Sub (.lit (.int 0)) (.lit (.int 10))) .Lt (.var 0) .Lt (.lit (.int 10))) [.ret (.lst [.bi .abs [.var 0], .lit (.int 0), .lit (.int 2)])] [], .ret (.lst [.var 0, .bin .Add (.lit (.int 1)) (.bin .Mod (.bi .int [.var 0]) (.lit (.int 1009))), .bi .int [.cmp .GtE (.var 0) (.bin .Pow (.lit (.int 10)) (.lit (.int 18)))]])]
def S__law_roll : List S := [.ite (.orr (.cmp .Eq (.idx (.var 0) (.lit (.int 2))) (.lit (.int 2))) (.an (.cmp .Eq (.idx (.var 0) (.lit (.int 2))) (.lit (.int 1))) (.cmp .Gt (.idx (.var 0) (.lit (.int 0))) (.lit (.int 0))))) [.set 2 0 (.bin .Mod (.bi .int [.idx (.var 0) (.lit (.int 0))]) (.var 1)), .seti (.var 0) (.lit (.int 0)) (.bin .FloorDiv (.idx (.var 0) (.lit (.int 0))) (.var 1)), .ret (.var 2)] [], .seti (.var 0) (.lit (.int 2)) (.lit (.int 0)), .seti (.var 0) (.lit (.int 0)) (.bin .Mod (.bi .int [.bin .Add (.bin .Add (.bin .Mult (.idx (.var 0) (.lit (.int 0))) (.lit (.int 48271))) (.bin .Mult (.idx (.var 0) (.lit (.int 1))) (.lit (.int 69621)))) (.lit (.int 11))]) (.lit (.int 2147483647))), .seti (.var 0) (.lit (.int 1)) (.bin .Add (.idx (.var 0) (.lit (.int 1))) (.lit (.int 1))), .ret (.bin .Mod (.bi .int [.bin .Add (.bin .FloorDiv (.idx (.var 0) (.lit (.int 0))) (.lit (.int 7))) (.idx (.var 0) (.lit (.int 0)))]) (.var 1))]
def undL : List (Nat × List Bool) := [(1, [false, false, true, false, false, false, false, false, true]), (2, [false, true, false, false, false, false, false, false, true]), (3, [false, false, false, false, false, true, false, false, true]), (4, [false, false, false, false, true, false, false, false, true]), (5, [false, false, false, false, false, false, true, false, true]), (6, [false, false, false, false, false, false, false, true, true]), (7, [false, false, false, true, false, false, false, false, true]), (8, [true, false, false, false, false, false, false, false, true])]
def S_law : List S := [.sett (.tp [.nm 5, .nm 4]) (.tup [.bin .Add (.lit (.int 1)) (.call 12 [.var 1, .lit (.int 90)]), .make 1 []]), noneS 2, .set 3 0 (.call 12 [.var 1, .lit (.int 8)]), .ite (.cmp .NotEq (underE 3 [.meth 1 7 (.var 4) [], .make 2 [.lst [.bin .Mult (.lit (.str "a")) (.var 5), .bin .Mult (.lit (.str "a")) (.bin .Add (.var 5) (.lit (.int 1)))]], .call 0 [.bin .Sub (.lit (.int 0)) (.var 5)], .call 5 [.bin .Mult (.lit (.str "x")) (.var 5)], .call 9 [.bin .Mult (.lit (.str "a")) (.var 5), .lit (.int 2), .lit (.int 0), .var 5], .call 1 [.bin .Mult (.lit (.str "x")) (.var 5)], .call 8 [.lit (.int 0), .lst [.var 5, .var 5], .var 5], .meth 0 4 (.make 0 [.lst [], .lit (.str "clay")]) [.bin .Mult (.lit (.int 9)) (.var 5), .lit (.int 1)]] fun c => undL.lookup c) (.bin .Add (.lc (.cmp .Eq (.var 6) (.var 3)) (.nm 6) .rng [.lit (.int 8)] []) (.lst [.lit (.bl true)]))) [.ret (.lit (.bl false))] []]
def S__law_rounds : List S := [.ite (.cmp .Eq (.var 2) (.lst [])) [.set 2 0 (.lst [.lit (.int 0)])] [], .ret (.lc (.call 11 [.var 3]) (.nm 3) .seq [.var 2] [])]
def con_BEARS : D := .tup [.tup [.str "clay", .int 2], .tup [.str "sand", .int 4], .tup [.str "gravel", .int 8], .tup [.str "hardcore", .int 12], .tup [.str "concrete", .int 40]]
def con_DEEDS : D := .tup [.str "laid", .str "lifted", .str "cracked", .str "mended"]
def P_round_area : Pr where
  con := fun k => match k with
    | 0 => some con_BEARS
    | 1 => some con_DEEDS
    | _ => none
  prim := fun _ => no
  hd := hdT
  fn := fun k => match k with
    | _ => fun _ => no
  new := fun k => match k with
    | _ => fun _ => no
def f_round_area : List D → M D := runF P_round_area 1 S_round_area
def P_bears_of : Pr where
  con := fun k => match k with
    | 0 => some con_BEARS
    | 1 => some con_DEEDS
    | _ => none
  prim := fun _ => no
  hd := hdT
  fn := fun k => match k with
    | 0 => f_round_area
    | _ => fun _ => no
  new := fun k => match k with
    | _ => fun _ => no
def f_bears_of : List D → M D := runF P_bears_of 3 S_bears_of
def P_Bed_init : Pr where
  con := fun k => match k with
    | 0 => some con_BEARS
    | 1 => some con_DEEDS
    | _ => none
  prim := fun _ => no
  hd := hdT
  fn := fun k => match k with
    | 0 => f_round_area
    | 1 => f_bears_of
    | _ => fun _ => no
  new := fun k => match k with
    | _ => fun _ => no
def f_Bed_init : List D → M D := runF P_Bed_init 6 S_Bed_init
def P_Bed_pressures : Pr where
  con := fun k => match k with
    | 0 => some con_BEARS
    | 1 => some con_DEEDS
    | _ => none
  prim := fun _ => no
  hd := hdT
  fn := fun k => match k with
    | 0 => f_round_area
    | 1 => f_bears_of
    | 2 => f_Bed_init
    | _ => fun _ => no
  new := fun k => match k with
    | 0 => newI 0 2 f_Bed_init
    | _ => fun _ => no
def f_Bed_pressures : List D → M D := runF P_Bed_pressures 7 S_Bed_pressures
def P_Bed_check : Pr where
  con := fun k => match k with
    | 0 => some con_BEARS
    | 1 => some con_DEEDS
    | _ => none
  prim := fun _ => no
  hd := hdT
  fn := fun k => match k with
    | 0 => f_round_area
    | 1 => f_bears_of
    | 2 => f_Bed_init
    | 3 => f_Bed_pressures
    | _ => fun _ => no
  new := fun k => match k with
    | 0 => newI 0 2 f_Bed_init
    | _ => fun _ => no
def f_Bed_check : List D → M D := runF P_Bed_check 5 S_Bed_check
def P_read_line : Pr where
  con := fun k => match k with
    | 0 => some con_BEARS
    | 1 => some con_DEEDS
    | _ => none
  prim := fun _ => no
  hd := hdT
  fn := fun k => match k with
    | 0 => f_round_area
    | 1 => f_bears_of
    | 2 => f_Bed_init
    | 3 => f_Bed_pressures
    | 4 => f_Bed_check
    | _ => fun _ => no
  new := fun k => match k with
    | 0 => newI 0 2 f_Bed_init
    | _ => fun _ => no
def f_read_line : List D → M D := runF P_read_line 5 S_read_line
def P_Desk_init : Pr where
  con := fun k => match k with
    | 0 => some con_BEARS
    | 1 => some con_DEEDS
    | _ => none
  prim := fun _ => no
  hd := hdT
  fn := fun k => match k with
    | 0 => f_round_area
    | 1 => f_bears_of
    | 2 => f_Bed_init
    | 3 => f_Bed_pressures
    | 4 => f_Bed_check
    | 5 => f_read_line
    | _ => fun _ => no
  new := fun k => match k with
    | 0 => newI 0 2 f_Bed_init
    | _ => fun _ => no
def f_Desk_init : List D → M D := runF P_Desk_init 1 S_Desk_init
def P_Desk_undo : Pr where
  con := fun k => match k with
    | 0 => some con_BEARS
    | 1 => some con_DEEDS
    | _ => none
  prim := fun _ => no
  hd := hdT
  fn := fun k => match k with
    | 0 => f_round_area
    | 1 => f_bears_of
    | 2 => f_Bed_init
    | 3 => f_Bed_pressures
    | 4 => f_Bed_check
    | 5 => f_read_line
    | 6 => f_Desk_init
    | _ => fun _ => no
  new := fun k => match k with
    | 0 => newI 0 2 f_Bed_init
    | 1 => newI 1 3 f_Desk_init
    | _ => fun _ => no
def f_Desk_undo : List D → M D := runF P_Desk_undo 2 S_Desk_undo
def P_closed_off : Pr where
  con := fun k => match k with
    | 0 => some con_BEARS
    | 1 => some con_DEEDS
    | _ => none
  prim := fun _ => no
  hd := hdT
  fn := fun k => match k with
    | 0 => f_round_area
    | 1 => f_bears_of
    | 2 => f_Bed_init
    | 3 => f_Bed_pressures
    | 4 => f_Bed_check
    | 5 => f_read_line
    | 6 => f_Desk_init
    | 7 => f_Desk_undo
    | _ => fun _ => no
  new := fun k => match k with
    | 0 => newI 0 2 f_Bed_init
    | 1 => newI 1 3 f_Desk_init
    | _ => fun _ => no
def f_closed_off : List D → M D := runF P_closed_off 4 S_closed_off
def P_letters_long : Pr where
  con := fun k => match k with
    | 0 => some con_BEARS
    | 1 => some con_DEEDS
    | _ => none
  prim := fun _ => no
  hd := hdT
  fn := fun k => match k with
    | 0 => f_round_area
    | 1 => f_bears_of
    | 2 => f_Bed_init
    | 3 => f_Bed_pressures
    | 4 => f_Bed_check
    | 5 => f_read_line
    | 6 => f_Desk_init
    | 7 => f_Desk_undo
    | 8 => f_closed_off
    | _ => fun _ => no
  new := fun k => match k with
    | 0 => newI 0 2 f_Bed_init
    | 1 => newI 1 3 f_Desk_init
    | _ => fun _ => no
def f_letters_long : List D → M D := runF P_letters_long 6 S_letters_long
def P_Picture_init : Pr where
  con := fun k => match k with
    | 0 => some con_BEARS
    | 1 => some con_DEEDS
    | _ => none
  prim := fun _ => no
  hd := hdT
  fn := fun k => match k with
    | 0 => f_round_area
    | 1 => f_bears_of
    | 2 => f_Bed_init
    | 3 => f_Bed_pressures
    | 4 => f_Bed_check
    | 5 => f_read_line
    | 6 => f_Desk_init
    | 7 => f_Desk_undo
    | 8 => f_closed_off
    | 9 => f_letters_long
    | _ => fun _ => no
  new := fun k => match k with
    | 0 => newI 0 2 f_Bed_init
    | 1 => newI 1 3 f_Desk_init
    | _ => fun _ => no
def f_Picture_init : List D → M D := runF P_Picture_init 4 S_Picture_init
def P__law_dice : Pr where
  con := fun k => match k with
    | 0 => some con_BEARS
    | 1 => some con_DEEDS
    | _ => none
  prim := fun _ => no
  hd := hdT
  fn := fun k => match k with
    | 0 => f_round_area
    | 1 => f_bears_of
    | 2 => f_Bed_init
    | 3 => f_Bed_pressures
    | 4 => f_Bed_check
    | 5 => f_read_line
    | 6 => f_Desk_init
    | 7 => f_Desk_undo
    | 8 => f_closed_off
    | 9 => f_letters_long
    | 10 => f_Picture_init
    | _ => fun _ => no
  new := fun k => match k with
    | 0 => newI 0 2 f_Bed_init
    | 1 => newI 1 3 f_Desk_init
    | 2 => newI 2 1 f_Picture_init
    | _ => fun _ => no
def f__law_dice : List D → M D := runF P__law_dice 1 S__law_dice
def P__law_roll : Pr where
  con := fun k => match k with
    | 0 => some con_BEARS
    | 1 => some con_DEEDS
    | _ => none
  prim := fun _ => no
  hd := hdT
  fn := fun k => match k with
    | 0 => f_round_area
    | 1 => f_bears_of
    | 2 => f_Bed_init
    | 3 => f_Bed_pressures
    | 4 => f_Bed_check
    | 5 => f_read_line
    | 6 => f_Desk_init
    | 7 => f_Desk_undo
    | 8 => f_closed_off
    | 9 => f_letters_long
    | 10 => f_Picture_init
    | 11 => f__law_dice
    | _ => fun _ => no
  new := fun k => match k with
    | 0 => newI 0 2 f_Bed_init
    | 1 => newI 1 3 f_Desk_init
    | 2 => newI 2 1 f_Picture_init
    | _ => fun _ => no
def f__law_roll : List D → M D := runF P__law_roll 3 S__law_roll
def P__law_rounds : Pr where
  con := fun k => match k with
    | 0 => some con_BEARS
    | 1 => some con_DEEDS
    | _ => none
  prim := fun _ => no
  hd := hdT
  fn := fun k => match k with
    | 0 => f_round_area
    | 1 => f_bears_of
    | 2 => f_Bed_init
    | 3 => f_Bed_pressures
    | 4 => f_Bed_check
    | 5 => f_read_line
    | 6 => f_Desk_init
    | 7 => f_Desk_undo
    | 8 => f_closed_off
    | 9 => f_letters_long
    | 10 => f_Picture_init
    | 11 => f__law_dice
    | 12 => f__law_roll
    | _ => fun _ => no
  new := fun k => match k with
    | 0 => newI 0 2 f_Bed_init
    | 1 => newI 1 3 f_Desk_init
    | 2 => newI 2 1 f_Picture_init
    | _ => fun _ => no
def P__law_under : Pr where
  con := fun k => match k with
    | 0 => some con_BEARS
    | 1 => some con_DEEDS
    | _ => none
  prim := fun _ => no
  hd := hdT
  fn := fun k => match k with
    | 0 => f_round_area
    | 1 => f_bears_of
    | 2 => f_Bed_init
    | 3 => f_Bed_pressures
    | 4 => f_Bed_check
    | 5 => f_read_line
    | 6 => f_Desk_init
    | 7 => f_Desk_undo
    | 8 => f_closed_off
    | 9 => f_letters_long
    | 10 => f_Picture_init
    | 11 => f__law_dice
    | 12 => f__law_roll
    | _ => fun _ => no
  new := fun k => match k with
    | 0 => newI 0 2 f_Bed_init
    | 1 => newI 1 3 f_Desk_init
    | 2 => newI 2 1 f_Picture_init
    | _ => fun _ => no
def P_law : Pr where
  con := fun k => match k with
    | 0 => some con_BEARS
    | 1 => some con_DEEDS
    | _ => none
  prim := fun _ => no
  hd := hdT
  fn := fun k => match k with
    | 0 => f_round_area
    | 1 => f_bears_of
    | 2 => f_Bed_init
    | 3 => f_Bed_pressures
    | 4 => f_Bed_check
    | 5 => f_read_line
    | 6 => f_Desk_init
    | 7 => f_Desk_undo
    | 8 => f_closed_off
    | 9 => f_letters_long
    | 10 => f_Picture_init
    | 11 => f__law_dice
    | 12 => f__law_roll
    | _ => fun _ => no
  new := fun k => match k with
    | 0 => newI 0 2 f_Bed_init
    | 1 => newI 1 3 f_Desk_init
    | 2 => newI 2 1 f_Picture_init
    | _ => fun _ => no
/-! the facts -/
def fn : List He.DefD := [⟨at_round_area, "round_area", "round_area", defArgs st_round_area, defBody st_round_area, defScope st_round_area, [], []⟩, ⟨at_bears_of, "bears_of", "bears_of", defArgs st_bears_of, defBody st_bears_of, defScope st_bears_of, [], []⟩, ⟨at_Bed_init, "__init__", "Bed.__init__", defArgs st_Bed_init, defBody st_Bed_init, defScope st_Bed_init, [], []⟩, ⟨at_Bed_pressures, "pressures", "Bed.pressures", defArgs st_Bed_pressures, defBody st_Bed_pressures, defScope st_Bed_pressures, [], []⟩, ⟨at_Bed_check, "check", "Bed.check", defArgs st_Bed_check, defBody st_Bed_check, defScope st_Bed_check, [], []⟩, ⟨at_read_line, "read_line", "read_line", defArgs st_read_line, defBody st_read_line, defScope st_read_line, [], []⟩, ⟨at_Desk_init, "__init__", "Desk.__init__", defArgs st_Desk_init, defBody st_Desk_init, defScope st_Desk_init, [], []⟩, ⟨at_Desk_undo, "undo", "Desk.undo", defArgs st_Desk_undo, defBody st_Desk_undo, defScope st_Desk_undo, [], []⟩, ⟨at_closed_off, "closed_off", "closed_off", defArgs st_closed_off, defBody st_closed_off, defScope st_closed_off, [], []⟩, ⟨at_letters_long, "letters_long", "letters_long", defArgs st_letters_long, defBody st_letters_long, defScope st_letters_long, [], []⟩, ⟨at_Picture_init, "__init__", "Picture.__init__", defArgs st_Picture_init, defBody st_Picture_init, defScope st_Picture_init, [], []⟩, ⟨at__law_dice, "_law_dice", "_law_dice", defArgs st__law_dice, defBody st__law_dice, defScope st__law_dice, [], []⟩, ⟨at__law_roll, "_law_roll", "_law_roll", defArgs st__law_roll, defBody st__law_roll, defScope st__law_roll, [], []⟩, ⟨at__law_rounds, "_law_rounds", "_law_rounds", defArgs st__law_rounds, defBody st__law_rounds, defScope st__law_rounds, [], []⟩, ⟨at__law_under, "_law_under", "_law_under", defArgs st__law_under, defBody st__law_under, defScope st__law_under, [], []⟩, ⟨at_law, "law", "law", defArgs st_law, defBody st_law, defScope st_law, [], []⟩]
def fa : List He.Fa := [.free "any",
  .free "all",
  .free "sum",
  .free "len",
  .free "abs",
  .free "int",
  .free "str",
  .free "list",
  .free "tuple",
  .free "dict",
  .free "min",
  .free "max",
  .free "sorted",
  .free "range",
  .free "enumerate",
  .free "zip",
  .free "reversed",
  .free "isinstance",
  .free "set",
  .free "bool",
  .free "ValueError",
  .glo "round_area",
  .glo "bears_of",
  .glo "read_line",
  .glo "closed_off",
  .glo "letters_long",
  .glo "_law_dice",
  .glo "_law_roll",
  .glo "_law_rounds",
  .glo "_law_under",
  .glo "law",
  .glo "Bed",
  .cls "Bed",
  .mkr "Bed",
  .noat "Bed" "layers",
  .noat "Bed" "ground",
  .meth "Bed" "pressures",
  .meth "Bed" "check",
  .glo "Desk",
  .cls "Desk",
  .mkr "Desk",
  .noat "Desk" "text",
  .noat "Desk" "deeds",
  .noat "Desk" "undone",
  .meth "Desk" "undo",
  .glo "Picture",
  .cls "Picture",
  .mkr "Picture",
  .noat "Picture" "rows",
  .glo "BEARS",
  .glo "DEEDS",
  .glo "PaveFault",
  .keep "PaveFault",
  .exc "PaveFault",
  .glo "BadSize",
  .keep "BadSize",
  .exc "BadSize",
  .glo "BadPlan",
  .keep "BadPlan",
  .exc "BadPlan",
  .glo "NoSuch",
  .keep "NoSuch",
  .exc "NoSuch",
  .glo "NoRoom",
  .keep "NoRoom",
  .exc "NoRoom",
  .glo "NoWay",
  .keep "NoWay",
  .exc "NoWay",
  .glo "Sinks",
  .keep "Sinks",
  .exc "Sinks",
  .glo "BadText",
  .keep "BadText",
  .glo "BadDeed",
  .keep "BadDeed",
  .exc "BadDeed"]
def nm_Bed_init : Nat → Nat → Str := fun _ _ => (("Bed.__init__" : Str) ++ ".<locals>.") ++ "<genexpr>"
def nm_Bed_check : Nat → Nat → Str := fun _ _ => (("Bed.check" : Str) ++ ".<locals>.") ++ "<genexpr>"
def nm_read_line : Nat → Nat → Str := fun _ _ => (("read_line" : Str) ++ ".<locals>.") ++ "<genexpr>"
def nm_letters_long : Nat → Nat → Str := fun _ _ => (("letters_long" : Str) ++ ".<locals>.") ++ "<genexpr>"
def nm_Picture_init : Nat → Nat → Str := fun _ _ => (("Picture.__init__" : Str) ++ ".<locals>.") ++ "<genexpr>"
def nm_law : Nat → Nat → Str := fun _ _ => (("law" : Str) ++ ".<locals>.") ++ "<lambda>"
def tabs : List (He.Defn × (Nat → Nat → Str)) := [(at_Bed_init, nm_Bed_init), (at_Bed_check, nm_Bed_check), (at_read_line, nm_read_line), (at_letters_long, nm_letters_long), (at_Picture_init, nm_Picture_init), (at_law, nm_law)]
def clT (K : PySem.W.Frag) : Nat → Option (Addr × List Str)
  | 0 => some (He.ga K "Bed", ["layers", "ground"])
  | 1 => some (He.ga K "Desk", ["text", "deeds", "undone"])
  | 2 => some (He.ga K "Picture", ["rows"])
  | _ => none
def exT (K : PySem.W.Frag) : Nat → Addr
  | 0 => He.ga K "PaveFault"
  | 1 => He.ga K "BadSize"
  | 2 => He.ga K "BadPlan"
  | 3 => He.ga K "NoSuch"
  | 4 => He.ga K "NoRoom"
  | 5 => He.ga K "NoWay"
  | 6 => He.ga K "Sinks"
  | 7 => He.ga K "BadText"
  | 8 => He.ga K "BadDeed"
  | _ => 0
def GG (K : PySem.W.Frag) : Gx := ⟨K, clT K, exT K, GT K tabs, fun _ => none, true⟩
def fileS : Str := "/claim/cut.py"
def btOk (K : PySem.W.Frag) : Bool := BT.btB K fileS (He.ga K "BadText")
def conOk (K : PySem.W.Frag) : Bool := conB K con_BEARS (.ref (He.ga K "BEARS")) && conB K con_DEEDS (.ref (He.ga K "DEEDS"))
def und1 (K : PySem.W.Frag) : List Value := [.ref (He.ga K "BadDeed"), .ref (He.ga K "BadPlan"), .ref (He.ga K "BadSize"), .ref (He.ga K "BadText")]
def und2 (K : PySem.W.Frag) : List Value := [.ref (He.ga K "NoRoom"), .ref (He.ga K "NoSuch"), .ref (He.ga K "NoWay"), .ref (He.ga K "Sinks")]
def und3 (K : PySem.W.Frag) : List Value := [.type "ValueError"]
def undOk (K : PySem.W.Frag) : Bool := clsSayB K (exT K) (He.ga K "PaveFault") (und1 K ++ und2 K ++ und3 K) undL
structure HY (prog : Program) (K : PySem.W.Frag) (mg : Str → Option Value) (base : Heap) : Prop where
  kin : K.In base
  ns : base.Ns mainGlobals mg
  says : He.SaysD fa fn K
  TB : ∀ t ∈ tabs, TabB base mg (He.cT K t.1).1 (He.cT K t.1).2
  nd : (tabs.map fun t => (He.cT K t.1).2).Nodup
  con : conOk K = true
  bt : btOk K = true
  pf : (prog.main.file : Str) = fileS
  ps : (prog.main.scope.names.lookup ("super" : Str)).isSome = false
  und : undOk K = true
section
variable {prog : Program} {w : World} {K : PySem.W.Frag} {mg : Str → Option Value} {base : Heap} (hy : HY prog K mg base)
include hy
theorem B : BF mg := ⟨He.free_ok hy.kin hy.ns (hy.says.fact 0), He.free_ok hy.kin hy.ns (hy.says.fact 1), He.free_ok hy.kin hy.ns (hy.says.fact 2), He.free_ok hy.kin hy.ns (hy.says.fact 3), He.free_ok hy.kin hy.ns (hy.says.fact 4), He.free_ok hy.kin hy.ns (hy.says.fact 5), He.free_ok hy.kin hy.ns (hy.says.fact 6), He.free_ok hy.kin hy.ns (hy.says.fact 7), He.free_ok hy.kin hy.ns (hy.says.fact 8), He.free_ok hy.kin hy.ns (hy.says.fact 9), He.free_ok hy.kin hy.ns (hy.says.fact 10), He.free_ok hy.kin hy.ns (hy.says.fact 11), He.free_ok hy.kin hy.ns (hy.says.fact 12), He.free_ok hy.kin hy.ns (hy.says.fact 13), He.free_ok hy.kin hy.ns (hy.says.fact 14), He.free_ok hy.kin hy.ns (hy.says.fact 15), He.free_ok hy.kin hy.ns (hy.says.fact 16), He.free_ok hy.kin hy.ns (hy.says.fact 17), He.free_ok hy.kin hy.ns (hy.says.fact 18), He.free_ok hy.kin hy.ns (hy.says.fact 19)⟩
theorem cm_BEARS : mg "BEARS" = some (.ref (He.ga K "BEARS")) := He.glo_ok hy.kin hy.ns (hy.says.fact 49)
theorem cb_BEARS : conB K con_BEARS (.ref (He.ga K "BEARS")) = true := by
  have h := hy.con
  simp only [conOk, Bool.and_eq_true] at h
  simp [h]
theorem cls_Bed : Cls K (He.ga K "Bed") := He.cls_ok (hy.says.fact 32)
theorem na_Bed_layers : NoAttr K (He.ga K "Bed") "layers" := He.noat_ok (hy.says.fact 34)
theorem na_Bed_ground : NoAttr K (He.ga K "Bed") "ground" := He.noat_ok (hy.says.fact 35)
theorem cls_Desk : Cls K (He.ga K "Desk") := He.cls_ok (hy.says.fact 39)
theorem na_Desk_text : NoAttr K (He.ga K "Desk") "text" := He.noat_ok (hy.says.fact 41)
theorem na_Desk_deeds : NoAttr K (He.ga K "Desk") "deeds" := He.noat_ok (hy.says.fact 42)
theorem na_Desk_undone : NoAttr K (He.ga K "Desk") "undone" := He.noat_ok (hy.says.fact 43)
theorem bt_BadText : BT.BtX prog K (He.ga K "BadText") := BT.btB_ok hy.pf hy.ps hy.bt
theorem xc_BadSize {X : Cx} (hK : X.K = K) (hm : X.mg = mg) : Xc X (He.ga K "BadSize") "BadSize" := xc_of hK hm (He.glo_ok hy.kin hy.ns (hy.says.fact 54)) (hy.says.fact 56)
theorem xc_BadPlan {X : Cx} (hK : X.K = K) (hm : X.mg = mg) : Xc X (He.ga K "BadPlan") "BadPlan" := xc_of hK hm (He.glo_ok hy.kin hy.ns (hy.says.fact 57)) (hy.says.fact 59)
theorem xc_NoSuch {X : Cx} (hK : X.K = K) (hm : X.mg = mg) : Xc X (He.ga K "NoSuch") "NoSuch" := xc_of hK hm (He.glo_ok hy.kin hy.ns (hy.says.fact 60)) (hy.says.fact 62)
theorem xc_NoRoom {X : Cx} (hK : X.K = K) (hm : X.mg = mg) : Xc X (He.ga K "NoRoom") "NoRoom" := xc_of hK hm (He.glo_ok hy.kin hy.ns (hy.says.fact 63)) (hy.says.fact 65)
theorem xc_NoWay {X : Cx} (hK : X.K = K) (hm : X.mg = mg) : Xc X (He.ga K "NoWay") "NoWay" := xc_of hK hm (He.glo_ok hy.kin hy.ns (hy.says.fact 66)) (hy.says.fact 68)
theorem xc_Sinks {X : Cx} (hK : X.K = K) (hm : X.mg = mg) : Xc X (He.ga K "Sinks") "Sinks" := xc_of hK hm (He.glo_ok hy.kin hy.ns (hy.says.fact 69)) (hy.says.fact 71)
theorem xc_BadDeed {X : Cx} (hK : X.K = K) (hm : X.mg = mg) : Xc X (He.ga K "BadDeed") "BadDeed" := xc_of hK hm (He.glo_ok hy.kin hy.ns (hy.says.fact 74)) (hy.says.fact 76)
theorem gm_BadText : mg "BadText" = some (.ref (He.ga K "BadText")) := He.glo_ok hy.kin hy.ns (hy.says.fact 72)
theorem tab_d_Bed_init {X : Cx} {pos : Pos} {name : Str} (hb : X.base = base ∧ X.mg = mg) (hc : X.env.code = .ref (He.codeOf K at_Bed_init)) (hn : nm_Bed_init pos.line pos.col = X.env.qual ++ name) : TabAt X (GG K).T pos name := tabAt_of hy.TB hy.nd (p := at_Bed_init) (nm := nm_Bed_init) (by simp [tabs]) hb.1 hb.2 hc hn
theorem tab_d_Bed_check {X : Cx} {pos : Pos} {name : Str} (hb : X.base = base ∧ X.mg = mg) (hc : X.env.code = .ref (He.codeOf K at_Bed_check)) (hn : nm_Bed_check pos.line pos.col = X.env.qual ++ name) : TabAt X (GG K).T pos name := tabAt_of hy.TB hy.nd (p := at_Bed_check) (nm := nm_Bed_check) (by simp [tabs]) hb.1 hb.2 hc hn
theorem tab_d_letters_long {X : Cx} {pos : Pos} {name : Str} (hb : X.base = base ∧ X.mg = mg) (hc : X.env.code = .ref (He.codeOf K at_letters_long)) (hn : nm_letters_long pos.line pos.col = X.env.qual ++ name) : TabAt X (GG K).T pos name := tabAt_of hy.TB hy.nd (p := at_letters_long) (nm := nm_letters_long) (by simp [tabs]) hb.1 hb.2 hc hn
theorem tab_d_Picture_init {X : Cx} {pos : Pos} {name : Str} (hb : X.base = base ∧ X.mg = mg) (hc : X.env.code = .ref (He.codeOf K at_Picture_init)) (hn : nm_Picture_init pos.line pos.col = X.env.qual ++ name) : TabAt X (GG K).T pos name := tabAt_of hy.TB hy.nd (p := at_Picture_init) (nm := nm_Picture_init) (by simp [tabs]) hb.1 hb.2 hc hn
theorem tab_d_law {X : Cx} {pos : Pos} {name : Str} (hb : X.base = base ∧ X.mg = mg) (hc : X.env.code = .ref (He.codeOf K at_law)) (hn : nm_law pos.line pos.col = X.env.qual ++ name) : TabAt X (GG K).T pos name := tabAt_of hy.TB hy.nd (p := at_law) (nm := nm_law) (by simp [tabs]) hb.1 hb.2 hc hn

theorem und_ok : Under prog w K mg base "_law_under" (He.ga K "PaveFault") (und1 K) (und2 K) (und3 K) := by
  obtain ⟨fd, F⟩ := hy.says.def_ 14 (d := ⟨at__law_under, "_law_under", "_law_under", defArgs st__law_under, defBody st__law_under, defScope st__law_under, [], []⟩) rfl
  have bd : L2.Binds K fd ["what"] [] := F.bindsN fun _ _ _ _ _ _ us hl => match us, hl with | [_], _ => rfl
  refine und_of (Ng := N__law_under) (a := "what") (px := "PaveFault") (n := "e") (m := "some") (ie := 1) (im := 2) (s1 := [("BadDeed", .ref (He.ga K "BadDeed"), _, _, _, _), ("BadPlan", .ref (He.ga K "BadPlan"), _, _, _, _), ("BadSize", .ref (He.ga K "BadSize"), _, _, _, _), ("BadText", .ref (He.ga K "BadText"), _, _, _, _)]) (s2 := [("NoRoom", .ref (He.ga K "NoRoom"), _, _, _, _), ("NoSuch", .ref (He.ga K "NoSuch"), _, _, _, _), ("NoWay", .ref (He.ga K "NoWay"), _, _, _, _), ("Sinks", .ref (He.ga K "Sinks"), _, _, _, _)]) (s3 := [("ValueError", .type "ValueError", _, _, _, _)]) F (He.glo_ok hy.kin hy.ns (hy.says.fact 29)) (C8.fnScope_by (by decide +kernel)) rfl (.inl (by decide +kernel)) bd (by decide) (by decide) (fun X e1 e2 e3 => ?_) (by decide +kernel) rfl rfl (by decide) (by decide +kernel) (by decide +kernel) (fun _ => rfl) (by decide) (by decide) (by decide) (by decide)
  have hg : ∀ x : Str, X.env.scope.names.lookup x = some NameKind.globalImplicit → Gl X x := fun x h => h
  exact ⟨⟨hg _ (by rw [e3]; decide +kernel), by decide, .inl (by rw [e2]; exact He.glo_ok hy.kin hy.ns (hy.says.fact 51))⟩, hg _ (by rw [e3]; decide +kernel), by rw [e2]; exact (B hy).isinstance, (List.forall_mem_cons.mpr ⟨(show IsC X "BadDeed" (.ref (He.ga K "BadDeed")) from isC_glob (hg _ (by rw [e3]; decide +kernel)) (by rw [e2]; exact He.glo_ok hy.kin hy.ns (hy.says.fact 74))), (List.forall_mem_cons.mpr ⟨(show IsC X "BadPlan" (.ref (He.ga K "BadPlan")) from isC_glob (hg _ (by rw [e3]; decide +kernel)) (by rw [e2]; exact He.glo_ok hy.kin hy.ns (hy.says.fact 57))), (List.forall_mem_cons.mpr ⟨(show IsC X "BadSize" (.ref (He.ga K "BadSize")) from isC_glob (hg _ (by rw [e3]; decide +kernel)) (by rw [e2]; exact He.glo_ok hy.kin hy.ns (hy.says.fact 54))), (List.forall_mem_cons.mpr ⟨(show IsC X "BadText" (.ref (He.ga K "BadText")) from isC_glob (hg _ (by rw [e3]; decide +kernel)) (by rw [e2]; exact He.glo_ok hy.kin hy.ns (hy.says.fact 72))), (List.forall_mem_cons.mpr ⟨(show IsC X "NoRoom" (.ref (He.ga K "NoRoom")) from isC_glob (hg _ (by rw [e3]; decide +kernel)) (by rw [e2]; exact He.glo_ok hy.kin hy.ns (hy.says.fact 63))), (List.forall_mem_cons.mpr ⟨(show IsC X "NoSuch" (.ref (He.ga K "NoSuch")) from isC_glob (hg _ (by rw [e3]; decide +kernel)) (by rw [e2]; exact He.glo_ok hy.kin hy.ns (hy.says.fact 60))), (List.forall_mem_cons.mpr ⟨(show IsC X "NoWay" (.ref (He.ga K "NoWay")) from isC_glob (hg _ (by rw [e3]; decide +kernel)) (by rw [e2]; exact He.glo_ok hy.kin hy.ns (hy.says.fact 66))), (List.forall_mem_cons.mpr ⟨(show IsC X "Sinks" (.ref (He.ga K "Sinks")) from isC_glob (hg _ (by rw [e3]; decide +kernel)) (by rw [e2]; exact He.glo_ok hy.kin hy.ns (hy.says.fact 69))), (List.forall_mem_cons.mpr ⟨(show IsC X "ValueError" (.type "ValueError") from isC_ty (hg _ (by rw [e3]; decide +kernel)) (by rw [e2]; exact He.free_ok hy.kin hy.ns (hy.says.fact 20)) (by decide +kernel)), (List.forall_mem_nil _)⟩)⟩)⟩)⟩)⟩)⟩)⟩)⟩)⟩)⟩
theorem ds_round_area (A : Around) (outer : List PySem.Env) (s : Shared) (H : Hp) (E : XK) (hr : Room 4 (A.deeper (envOfC "round_area" (defScope st_round_area) s.heap.objs.size (He.fAd K at_round_area) (.ref (He.codeOf K at_round_area))))) :
    DSs (cxOf (L2.CX prog w) prog w K mg base N_round_area "round_area" (defScope st_round_area) (He.fAd K at_round_area) (.ref (He.codeOf K at_round_area)) A outer s H E) (GG K) P_round_area (defBody st_round_area) S_round_area :=
  (dss_cons (ds_ite (dt_cmp rfl (Room.u80 hr) (de_var (i := 0) rfl (.inl rfl) (by decide) (by decide)) de_int (by rfl)) (dss_cons (ds_raise (c := 1) rfl (xc_BadSize hy rfl rfl) rfl (da_cons de_str da_nil) (by decide))
      dss_nil) dss_nil)
      dss_cut)
theorem fn_round_area : FnP 0 prog w K mg base (GG K) 5 "round_area" 1 f_round_area := by
  obtain ⟨fd, F⟩ := hy.says.def_ 0 (d := ⟨at_round_area, "round_area", "round_area", defArgs st_round_area, defBody st_round_area, defScope st_round_area, [], []⟩) rfl
  have bd : L2.Binds K fd ["across"] [] := F.bindsN fun _ _ _ _ _ _ us hl => match us, hl with | [_], _ => rfl
  have ok := fnD_ok (prog := prog) (w := w) (mg := mg) (base := base) (G := GG K) (Pr := P_round_area) (p := at_round_area) (k := 4) (n := 1) F rfl (C8.fnScope_by (N := N_round_area) (P := ["across"]) (sc := defScope st_round_area) (by decide +kernel)) rfl (fun A outer s H E hr => ds_round_area hy A outer s H E hr)
  exact ⟨_, fd, _, He.glo_ok hy.kin hy.ns (hy.says.fact 21), F.kp, bd, ok⟩
theorem ds_bears_of (A : Around) (outer : List PySem.Env) (s : Shared) (H : Hp) (E : XK) (hr : Room 4 (A.deeper (envOfC "bears_of" (defScope st_bears_of) s.heap.objs.size (He.fAd K at_bears_of) (.ref (He.codeOf K at_bears_of))))) :
    DSs (cxOf (L2.CX prog w) prog w K mg base N_bears_of "bears_of" (defScope st_bears_of) (He.fAd K at_bears_of) (.ref (He.codeOf K at_bears_of)) A outer s H E) (GG K) P_bears_of (defBody st_bears_of) S_bears_of :=
  (dss_cons (ds_for (passes_of rfl) rfl (dis_seq rfl (de_gcon (k := 0) rfl rfl rfl (cm_BEARS hy) (cb_BEARS hy) rfl)) (dg_tp rfl rfl (dgs_cons (dg_nm (i := 1) nd_d_bears_of rfl (.inl rfl) (by first | exact .inl rfl | exact .inr rfl)) (dgs_cons (dg_nm (i := 2) nd_d_bears_of rfl (.inl rfl) (by first | exact .inl rfl | exact .inr rfl)) dgs_nil))) (dss_cons (ds_ite (dt_cmp rfl (Room.u80 hr) (de_var (i := 1) rfl (.inl rfl) (by decide) (by decide)) (de_var (i := 0) rfl (.inl rfl) (by decide) (by decide)) (by rfl)) (dss_cons (ds_ret (de_var (i := 2) rfl (.inl rfl) (by decide) (by decide)))
      dss_nil) dss_nil)
      dss_nil))
      (dss_cons (ds_raise (c := 3) rfl (xc_NoSuch hy rfl rfl) rfl (da_cons (de_var (i := 0) rfl (.inl rfl) (by decide) (by decide)) da_nil) (by decide))
      dss_nil))
theorem fn_bears_of : FnP 0 prog w K mg base (GG K) 5 "bears_of" 1 f_bears_of := by
  obtain ⟨fd, F⟩ := hy.says.def_ 1 (d := ⟨at_bears_of, "bears_of", "bears_of", defArgs st_bears_of, defBody st_bears_of, defScope st_bears_of, [], []⟩) rfl
  have bd : L2.Binds K fd ["kind"] [] := F.bindsN fun _ _ _ _ _ _ us hl => match us, hl with | [_], _ => rfl
  have ok := fnD_ok (prog := prog) (w := w) (mg := mg) (base := base) (G := GG K) (Pr := P_bears_of) (p := at_bears_of) (k := 4) (n := 1) F rfl (C8.fnScope_by (N := N_bears_of) (P := ["kind"]) (sc := defScope st_bears_of) (by decide +kernel)) rfl (fun A outer s H E hr => ds_bears_of hy A outer s H E hr)
  exact ⟨_, fd, _, He.glo_ok hy.kin hy.ns (hy.says.fact 22), F.kp, bd, ok⟩
theorem ds_Bed_init (A : Around) (outer : List PySem.Env) (s : Shared) (H : Hp) (E : XK) (hr : Room 9 (A.deeper (envOfC "Bed.__init__" (defScope st_Bed_init) s.heap.objs.size (He.fAd K at_Bed_init) (.ref (He.codeOf K at_Bed_init))))) :
    DSs (cxOf (L2.CX prog w) prog w K mg base N_Bed_init "Bed.__init__" (defScope st_Bed_init) (He.fAd K at_Bed_init) (.ref (He.codeOf K at_Bed_init)) A outer s H E) (GG K) P_Bed_init (defBody st_Bed_init) S_Bed_init :=
  (dss_cons (ds_ite (dt_val (de_gen (gk := .any) (k := 8) hr rfl (B hy).any (tab_d_Bed_init hy ⟨rfl, rfl⟩ rfl rfl) rfl nd_d_Bed_init ⟨blkOk_by (own := [("kind", 3), ("depth", 4)]) (by kernel_rfl), by decide +kernel, by decide +kernel, by decide +kernel⟩ rfl (di_seq rfl (de_var (i := 1) rfl (.inl rfl) (by decide) (by decide))) (fun _ _ _ _ _ _ r1 => (dg_tp rfl rfl (dgs_cons (dg_nm (i := 3) nd_d_Bed_init rfl (.inl rfl) (by first | exact .inl rfl | exact .inr rfl)) (dgs_cons (dg_nm (i := 4) nd_d_Bed_init rfl (.inl rfl) (by first | exact .inl rfl | exact .inr rfl)) dgs_nil)))) (fun _ _ _ _ _ _ r1 => dts_nil) (fun _ _ _ _ _ _ r1 => (de_cmp rfl (Room.u80 r1) (de_var (i := 4) rfl (.inl rfl) (by decide) (by decide)) de_int (by rfl))))) (dss_cons (ds_raise (c := 2) rfl (xc_BadPlan hy rfl rfl) rfl (da_cons de_str da_nil) (by decide))
      dss_nil) dss_nil)
      (dss_cons (ds_for (passes_of rfl) rfl (dis_seq rfl (de_var (i := 1) rfl (.inl rfl) (by decide) (by decide))) (dg_tp rfl rfl (dgs_cons (dg_nm (i := 3) nd_d_Bed_init rfl (.inl rfl) (by first | exact .inl rfl | exact .inr rfl)) (dgs_cons (dg_nm (i := 4) nd_d_Bed_init rfl (.inl rfl) (by first | exact .inl rfl | exact .inr rfl)) dgs_nil))) (dss_cons (ds_exp (de_fn (FnP.fn (fn_bears_of hy)) (hr.mono (by decide)) rfl (da_cons (de_var (i := 3) rfl (.inl rfl) (by decide) (by decide)) da_nil) rfl))
      dss_nil))
      (dss_cons (ds_exp (de_fn (FnP.fn (fn_bears_of hy)) (hr.mono (by decide)) rfl (da_cons (de_var (i := 2) rfl (.inl rfl) (by decide) (by decide)) da_nil) rfl))
      (dss_cons (ds_setf (k := 0) rfl rfl (by decide) rfl (by decide) (cls_Bed hy) (na_Bed_layers hy) (de_var (i := 0) rfl (.inl rfl) (by decide) (by decide)) (de_tuple rfl rfl (B hy).tuple (da_cons (de_lc rfl nd_d_Bed_init (di_seq rfl (de_var (i := 1) rfl (.inl rfl) (by decide) (by decide))) (blkOk_by (own := [("layer", 5)]) (by kernel_rfl)) rfl (fun _ _ _ _ _ => (dg_nm (i := 5) nd_d_Bed_init rfl (.inl rfl) (by first | exact .inl rfl | exact .inr rfl))) (fun _ _ _ _ _ => dts_nil) (fun _ _ _ _ _ => (de_tuple rfl rfl (B hy).tuple (da_cons (de_var (i := 5) rfl (.inl rfl) (by decide) (by decide)) da_nil)))) da_nil)))
      (dss_cons (ds_setf (k := 1) rfl rfl (by decide) rfl (by decide) (cls_Bed hy) (na_Bed_ground hy) (de_var (i := 0) rfl (.inl rfl) (by decide) (by decide)) (de_var (i := 2) rfl (.inl rfl) (by decide) (by decide)))
      dss_nil)))))
theorem nw_Bed : NwP 0 prog w K mg base (GG K) 10 "Bed" 0 2 f_Bed_init := by
  obtain ⟨fd, F⟩ := hy.says.def_ 2 (d := ⟨at_Bed_init, "__init__", "Bed.__init__", defArgs st_Bed_init, defBody st_Bed_init, defScope st_Bed_init, [], []⟩) rfl
  have bd : L2.Binds K fd ["self", "layers", "ground"] [] := F.bindsN fun _ _ _ _ _ _ us hl => match us, hl with | [_, _, _], _ => rfl
  have ok := fnD_ok (prog := prog) (w := w) (mg := mg) (base := base) (G := GG K) (Pr := P_Bed_init) (p := at_Bed_init) (k := 9) (n := 3) F rfl (C8.fnScope_by (N := N_Bed_init) (P := ["self", "layers", "ground"]) (sc := defScope st_Bed_init) (by decide +kernel)) rfl (fun A outer s H E hr => ds_Bed_init hy A outer s H E hr)
  exact ⟨_, _, _, fd, _, He.glo_ok hy.kin hy.ns (hy.says.fact 31), rfl, He.mkr_ok (hy.says.fact 33), bd, ok⟩
theorem ds_Bed_pressures (A : Around) (outer : List PySem.Env) (s : Shared) (H : Hp) (E : XK) (hr : Room 4 (A.deeper (envOfC "Bed.pressures" (defScope st_Bed_pressures) s.heap.objs.size (He.fAd K at_Bed_pressures) (.ref (He.codeOf K at_Bed_pressures))))) :
    DSs (cxOf (L2.CX prog w) prog w K mg base N_Bed_pressures "Bed.pressures" (defScope st_Bed_pressures) (He.fAd K at_Bed_pressures) (.ref (He.codeOf K at_Bed_pressures)) A outer s H E) (GG K) P_Bed_pressures (defBody st_Bed_pressures) S_Bed_pressures :=
  (dss_cons (ds_ite (dt_dw (dw_orr (dt_cmp rfl (Room.u80 hr) (de_var (i := 1) rfl (.inl rfl) (by decide) (by decide)) de_int (by rfl)) (dw_orr1 (dt_cmp rfl (Room.u80 hr) (de_var (i := 2) rfl (.inl rfl) (by decide) (by decide)) de_int (by rfl))))) (dss_cons (ds_raise (c := 1) rfl (xc_BadSize hy rfl rfl) rfl (da_cons de_str da_nil) (by decide))
      dss_nil) dss_nil)
      (dss_cons (ds_par (i := 3) (j := 4) rfl nd_d_Bed_pressures rfl rfl (by decide) rfl rfl (de_lst da_nil (by decide)) (de_bin rfl de_int (de_var (i := 2) rfl (.inl rfl) (by decide) (by decide))))
      (dss_cons (ds_for (passes_of rfl) rfl (dis_seq rfl (de_bin rfl (de_fld (j := 0) rfl rfl (by decide) rfl (cls_Bed hy) (na_Bed_layers hy) (de_var (i := 0) rfl (.inl rfl) (by decide) (by decide))) (de_tup (da_cons (de_tup (da_cons (de_fld (j := 1) rfl rfl (by decide) rfl (cls_Bed hy) (na_Bed_ground hy) (de_var (i := 0) rfl (.inl rfl) (by decide) (by decide))) (da_cons de_int da_nil)) (by decide)) da_nil) (by decide)))) (dg_tp rfl rfl (dgs_cons (dg_nm (i := 5) nd_d_Bed_pressures rfl (.inl rfl) (by first | exact .inl rfl | exact .inr rfl)) (dgs_cons (dg_nm (i := 6) nd_d_Bed_pressures rfl (.inl rfl) (by first | exact .inl rfl | exact .inr rfl)) dgs_nil))) (dss_cons (ds_app (i := 3) rfl rfl (.inl rfl) (de_tup (da_cons (de_var (i := 5) rfl (.inl rfl) (by decide) (by decide)) (da_cons (de_bin rfl de_int (de_bin rfl (de_bin rfl de_int (de_bin rfl de_int (de_var (i := 1) rfl (.inl rfl) (by decide) (by decide)))) (de_bin rfl (de_var (i := 4) rfl (.inl rfl) (by decide) (by decide)) (de_var (i := 4) rfl (.inl rfl) (by decide) (by decide))))) da_nil)) (by decide)))
      (dss_cons (ds_aug (i := 4) nd_d_Bed_pressures rfl (.inl rfl) (by first | exact .inl rfl | exact .inr rfl) (.inl rfl) (de_bin rfl de_int (de_var (i := 6) rfl (.inl rfl) (by decide) (by decide))))
      dss_nil)))
      (dss_cons (ds_ret (de_tuple rfl rfl (B hy).tuple (da_cons (de_var (i := 3) rfl (.inl rfl) (by decide) (by decide)) da_nil)))
      dss_nil))))
theorem mt_Bed_pressures : MtP 0 prog w K mg base (GG K) 5 (He.ga K "Bed") "pressures" 3 f_Bed_pressures := by
  obtain ⟨fd, F⟩ := hy.says.def_ 3 (d := ⟨at_Bed_pressures, "pressures", "Bed.pressures", defArgs st_Bed_pressures, defBody st_Bed_pressures, defScope st_Bed_pressures, [], []⟩) rfl
  have bd : L2.Binds K fd ["self", "load", "side"] [] := F.bindsN fun _ _ _ _ _ _ us hl => match us, hl with | [_, _, _], _ => rfl
  have ok := fnD_ok (prog := prog) (w := w) (mg := mg) (base := base) (G := GG K) (Pr := P_Bed_pressures) (p := at_Bed_pressures) (k := 4) (n := 3) F rfl (C8.fnScope_by (N := N_Bed_pressures) (P := ["self", "load", "side"]) (sc := defScope st_Bed_pressures) (by decide +kernel)) rfl (fun A outer s H E hr => ds_Bed_pressures hy A outer s H E hr)
  exact ⟨_, fd, _, He.meth_ok (hy.says.fact 36), bd, ok⟩
theorem ds_Bed_check (A : Around) (outer : List PySem.Env) (s : Shared) (H : Hp) (E : XK) (hr : Room 9 (A.deeper (envOfC "Bed.check" (defScope st_Bed_check) s.heap.objs.size (He.fAd K at_Bed_check) (.ref (He.codeOf K at_Bed_check))))) :
    DSs (cxOf (L2.CX prog w) prog w K mg base N_Bed_check "Bed.check" (defScope st_Bed_check) (He.fAd K at_Bed_check) (.ref (He.codeOf K at_Bed_check)) A outer s H E) (GG K) P_Bed_check (defBody st_Bed_check) S_Bed_check :=
  (dss_cons (ds_ite (dt_val (de_gen (gk := .any) (k := 8) hr rfl (B hy).any (tab_d_Bed_check hy ⟨rfl, rfl⟩ rfl rfl) rfl nd_d_Bed_check ⟨blkOk_by (own := [("kind", 3), ("press", 4)]) (by kernel_rfl), by decide +kernel, by decide +kernel, by decide +kernel⟩ rfl (di_seq rfl (de_meth rfl (cls_Bed hy) (by decide) (MtP.mt (mt_Bed_pressures hy)) (hr.mono (by decide)) (de_var (i := 0) rfl (.inl rfl) (by decide) (by decide)) (da_cons (de_var (i := 1) rfl (.inl rfl) (by decide) (by decide)) (da_cons (de_var (i := 2) rfl (.inl rfl) (by decide) (by decide)) da_nil)) rfl)) (fun _ _ _ _ _ _ r2 => (dg_tp rfl rfl (dgs_cons (dg_nm (i := 3) nd_d_Bed_check rfl (.inl rfl) (by first | exact .inl rfl | exact .inr rfl)) (dgs_cons (dg_nm (i := 4) nd_d_Bed_check rfl (.inl rfl) (by first | exact .inl rfl | exact .inr rfl)) dgs_nil)))) (fun _ _ _ _ _ _ r2 => dts_nil) (fun _ _ _ _ _ _ r2 => (de_cmp rfl (Room.u80 r2) (de_var (i := 4) rfl (.inl rfl) (by decide) (by decide)) (de_fn (FnP.fn (fn_bears_of hy)) (r2.mono (by decide)) rfl (da_cons (de_var (i := 3) rfl (.inl rfl) (by decide) (by decide)) da_nil) rfl) (by rfl))))) (dss_cons (ds_raise (c := 6) rfl (xc_Sinks hy rfl rfl) rfl (da_cons de_str da_nil) (by decide))
      dss_nil) dss_nil)
      dss_cut)
theorem mt_Bed_check : MtP 0 prog w K mg base (GG K) 10 (He.ga K "Bed") "check" 3 f_Bed_check := by
  obtain ⟨fd, F⟩ := hy.says.def_ 4 (d := ⟨at_Bed_check, "check", "Bed.check", defArgs st_Bed_check, defBody st_Bed_check, defScope st_Bed_check, [], []⟩) rfl
  have bd : L2.Binds K fd ["self", "load", "side"] [] := F.bindsN fun _ _ _ _ _ _ us hl => match us, hl with | [_, _, _], _ => rfl
  have ok := fnD_ok (prog := prog) (w := w) (mg := mg) (base := base) (G := GG K) (Pr := P_Bed_check) (p := at_Bed_check) (k := 9) (n := 3) F rfl (C8.fnScope_by (N := N_Bed_check) (P := ["self", "load", "side"]) (sc := defScope st_Bed_check) (by decide +kernel)) rfl (fun A outer s H E hr => ds_Bed_check hy A outer s H E hr)
  exact ⟨_, fd, _, He.meth_ok (hy.says.fact 37), bd, ok⟩
theorem ds_read_line (A : Around) (outer : List PySem.Env) (s : Shared) (H : Hp) (E : XK) (hr : Room 4 (A.deeper (envOfC "read_line" (defScope st_read_line) s.heap.objs.size (He.fAd K at_read_line) (.ref (He.codeOf K at_read_line))))) :
    DSs (cxOf (L2.CX prog w) prog w K mg base N_read_line "read_line" (defScope st_read_line) (He.fAd K at_read_line) (.ref (He.codeOf K at_read_line)) A outer s H E) (GG K) P_read_line (defBody st_read_line) S_read_line :=
  (dss_cons (ds_set (i := 1) (lv := 0) nd_d_read_line rfl (.inl rfl) (by first | exact .inl rfl | exact .inr rfl) (de_split (de_var (i := 0) rfl (.inl rfl) (by decide) (by decide)) de_str))
      (dss_cons (ds_ite (dt_cmp rfl (Room.u80 hr) (de_len rfl rfl (B hy).len (da_cons (de_var (i := 1) rfl (.inl rfl) (by decide) (by decide)) da_nil)) de_int (by rfl)) (dss_cons (ds_raiseB (c := 7) (k := 0) rfl (bt_BadText hy) (hr.mono (by decide)) rfl (gm_BadText hy) de_int)
      dss_nil) dss_nil)
      dss_cut))
theorem fn_read_line : FnP 0 prog w K mg base (GG K) 5 "read_line" 1 f_read_line := by
  obtain ⟨fd, F⟩ := hy.says.def_ 5 (d := ⟨at_read_line, "read_line", "read_line", defArgs st_read_line, defBody st_read_line, defScope st_read_line, [], []⟩) rfl
  have bd : L2.Binds K fd ["text"] [] := F.bindsN fun _ _ _ _ _ _ us hl => match us, hl with | [_], _ => rfl
  have ok := fnD_ok (prog := prog) (w := w) (mg := mg) (base := base) (G := GG K) (Pr := P_read_line) (p := at_read_line) (k := 4) (n := 1) F rfl (C8.fnScope_by (N := N_read_line) (P := ["text"]) (sc := defScope st_read_line) (by decide +kernel)) rfl (fun A outer s H E hr => ds_read_line hy A outer s H E hr)
  exact ⟨_, fd, _, He.glo_ok hy.kin hy.ns (hy.says.fact 23), F.kp, bd, ok⟩
theorem ds_Desk_init (A : Around) (outer : List PySem.Env) (s : Shared) (H : Hp) (E : XK) (hr : Room 4 (A.deeper (envOfC "Desk.__init__" (defScope st_Desk_init) s.heap.objs.size (He.fAd K at_Desk_init) (.ref (He.codeOf K at_Desk_init))))) :
    DSs (cxOf (L2.CX prog w) prog w K mg base N_Desk_init "Desk.__init__" (defScope st_Desk_init) (He.fAd K at_Desk_init) (.ref (He.codeOf K at_Desk_init)) A outer s H E) (GG K) P_Desk_init (defBody st_Desk_init) S_Desk_init :=
  (dss_cons (ds_setf (k := 0) rfl rfl (by decide) rfl (by decide) (cls_Desk hy) (na_Desk_text hy) (de_var (i := 0) rfl (.inl rfl) (by decide) (by decide)) de_str)
      (dss_cons (ds_setf (k := 1) rfl rfl (by decide) rfl (by decide) (cls_Desk hy) (na_Desk_deeds hy) (de_var (i := 0) rfl (.inl rfl) (by decide) (by decide)) (de_lst da_nil (by decide)))
      (dss_cons (ds_setf (k := 2) rfl rfl (by decide) rfl (by decide) (cls_Desk hy) (na_Desk_undone hy) (de_var (i := 0) rfl (.inl rfl) (by decide) (by decide)) (de_lst da_nil (by decide)))
      dss_nil)))
theorem nw_Desk : NwP 0 prog w K mg base (GG K) 5 "Desk" 1 0 f_Desk_init := by
  obtain ⟨fd, F⟩ := hy.says.def_ 6 (d := ⟨at_Desk_init, "__init__", "Desk.__init__", defArgs st_Desk_init, defBody st_Desk_init, defScope st_Desk_init, [], []⟩) rfl
  have bd : L2.Binds K fd ["self"] [] := F.bindsN fun _ _ _ _ _ _ us hl => match us, hl with | [_], _ => rfl
  have ok := fnD_ok (prog := prog) (w := w) (mg := mg) (base := base) (G := GG K) (Pr := P_Desk_init) (p := at_Desk_init) (k := 4) (n := 1) F rfl (C8.fnScope_by (N := N_Desk_init) (P := ["self"]) (sc := defScope st_Desk_init) (by decide +kernel)) rfl (fun A outer s H E hr => ds_Desk_init hy A outer s H E hr)
  exact ⟨_, _, _, fd, _, He.glo_ok hy.kin hy.ns (hy.says.fact 38), rfl, He.mkr_ok (hy.says.fact 40), bd, ok⟩
theorem ds_Desk_undo (A : Around) (outer : List PySem.Env) (s : Shared) (H : Hp) (E : XK) (hr : Room 4 (A.deeper (envOfC "Desk.undo" (defScope st_Desk_undo) s.heap.objs.size (He.fAd K at_Desk_undo) (.ref (He.codeOf K at_Desk_undo))))) :
    DSs (cxOf (L2.CX prog w) prog w K mg base N_Desk_undo "Desk.undo" (defScope st_Desk_undo) (He.fAd K at_Desk_undo) (.ref (He.codeOf K at_Desk_undo)) A outer s H E) (GG K) P_Desk_undo (defBody st_Desk_undo) S_Desk_undo :=
  (dss_cons (ds_ite (dt_cmp rfl (Room.u80 hr) (de_fld (j := 1) rfl rfl (by decide) rfl (cls_Desk hy) (na_Desk_deeds hy) (de_var (i := 0) rfl (.inl rfl) (by decide) (by decide))) (de_lst da_nil (by decide)) (by rfl)) (dss_cons (ds_raise (c := 8) rfl (xc_BadDeed hy rfl rfl) rfl (da_cons de_str da_nil) (by decide))
      dss_nil) dss_nil)
      dss_cut)
theorem mt_Desk_undo : MtP 0 prog w K mg base (GG K) 5 (He.ga K "Desk") "undo" 1 f_Desk_undo := by
  obtain ⟨fd, F⟩ := hy.says.def_ 7 (d := ⟨at_Desk_undo, "undo", "Desk.undo", defArgs st_Desk_undo, defBody st_Desk_undo, defScope st_Desk_undo, [], []⟩) rfl
  have bd : L2.Binds K fd ["self"] [] := F.bindsN fun _ _ _ _ _ _ us hl => match us, hl with | [_], _ => rfl
  have ok := fnD_ok (prog := prog) (w := w) (mg := mg) (base := base) (G := GG K) (Pr := P_Desk_undo) (p := at_Desk_undo) (k := 4) (n := 1) F rfl (C8.fnScope_by (N := N_Desk_undo) (P := ["self"]) (sc := defScope st_Desk_undo) (by decide +kernel)) rfl (fun A outer s H E hr => ds_Desk_undo hy A outer s H E hr)
  exact ⟨_, fd, _, He.meth_ok (hy.says.fact 44), bd, ok⟩
theorem ds_closed_off (A : Around) (outer : List PySem.Env) (s : Shared) (H : Hp) (E : XK) (hr : Room 4 (A.deeper (envOfC "closed_off" (defScope st_closed_off) s.heap.objs.size (He.fAd K at_closed_off) (.ref (He.codeOf K at_closed_off))))) :
    DSs (cxOf (L2.CX prog w) prog w K mg base N_closed_off "closed_off" (defScope st_closed_off) (He.fAd K at_closed_off) (.ref (He.codeOf K at_closed_off)) A outer s H E) (GG K) P_closed_off (defBody st_closed_off) S_closed_off :=
  (dss_cons (ds_set (i := 3) (lv := 0) nd_d_closed_off rfl (.inl rfl) (by first | exact .inl rfl | exact .inr rfl) (de_sum rfl rfl rfl (B hy).sum (da_cons (de_var (i := 1) rfl (.inl rfl) (by decide) (by decide)) da_nil)))
      (dss_cons (ds_ite (dt_cmp rfl (Room.u80 hr) (de_abs rfl (B hy).abs (da_cons (de_var (i := 3) rfl (.inl rfl) (by decide) (by decide)) da_nil)) (de_var (i := 2) rfl (.inl rfl) (by decide) (by decide)) (by rfl)) (dss_cons (ds_raise (c := 5) rfl (xc_NoWay hy rfl rfl) rfl (da_cons de_str da_nil) (by decide))
      dss_nil) dss_nil)
      dss_cut))
theorem fn_closed_off : FnP 0 prog w K mg base (GG K) 5 "closed_off" 3 f_closed_off := by
  obtain ⟨fd, F⟩ := hy.says.def_ 8 (d := ⟨at_closed_off, "closed_off", "closed_off", defArgs st_closed_off, defBody st_closed_off, defScope st_closed_off, [], []⟩) rfl
  have bd : L2.Binds K fd ["start", "steps", "let"] [] := F.bindsN fun _ _ _ _ _ _ us hl => match us, hl with | [_, _, _], _ => rfl
  have ok := fnD_ok (prog := prog) (w := w) (mg := mg) (base := base) (G := GG K) (Pr := P_closed_off) (p := at_closed_off) (k := 4) (n := 3) F rfl (C8.fnScope_by (N := N_closed_off) (P := ["start", "steps", "let"]) (sc := defScope st_closed_off) (by decide +kernel)) rfl (fun A outer s H E hr => ds_closed_off hy A outer s H E hr)
  exact ⟨_, fd, _, He.glo_ok hy.kin hy.ns (hy.says.fact 24), F.kp, bd, ok⟩
theorem ds_letters_long (A : Around) (outer : List PySem.Env) (s : Shared) (H : Hp) (E : XK) (hr : Room 4 (A.deeper (envOfC "letters_long" (defScope st_letters_long) s.heap.objs.size (He.fAd K at_letters_long) (.ref (He.codeOf K at_letters_long))))) :
    DSs (cxOf (L2.CX prog w) prog w K mg base N_letters_long "letters_long" (defScope st_letters_long) (He.fAd K at_letters_long) (.ref (He.codeOf K at_letters_long)) A outer s H E) (GG K) P_letters_long (defBody st_letters_long) S_letters_long :=
  (dss_cons (ds_ite (dt_val (de_gen (gk := .any) (k := 3) hr rfl (B hy).any (tab_d_letters_long hy ⟨rfl, rfl⟩ rfl rfl) rfl nd_d_letters_long ⟨blkOk_by (own := [("sign", 5)]) (by kernel_rfl), by decide +kernel, by decide +kernel, by decide +kernel⟩ rfl (di_chr (de_var (i := 0) rfl (.inl rfl) (by decide) (by decide))) (fun _ _ _ _ _ _ r3 => (dg_nm (i := 5) nd_d_letters_long rfl (.inl rfl) (by first | exact .inl rfl | exact .inr rfl))) (fun _ _ _ _ _ _ r3 => dts_nil) (fun _ _ _ _ _ _ r3 => (de_cmp rfl (Room.u80 r3) (de_var (i := 5) rfl (.inl rfl) (by decide) (by decide)) de_str (by rfl))))) (dss_cons (ds_raise (c := 3) rfl (xc_NoSuch hy rfl rfl) rfl (da_cons de_str da_nil) (by decide))
      dss_nil) dss_nil)
      (dss_cons (ds_set (i := 4) (lv := 0) nd_d_letters_long rfl (.inl rfl) (by first | exact .inl rfl | exact .inr rfl) (de_bin rfl (de_bin rfl (de_len rfl rfl (B hy).len (da_cons (de_var (i := 0) rfl (.inl rfl) (by decide) (by decide)) da_nil)) (de_var (i := 1) rfl (.inl rfl) (by decide) (by decide))) (de_bin rfl (de_max2 rfl rfl (B hy).max (da_cons de_int (da_cons (de_bin rfl (de_len rfl rfl (B hy).len (da_cons (de_var (i := 0) rfl (.inl rfl) (by decide) (by decide)) da_nil)) de_int) da_nil))) (de_var (i := 2) rfl (.inl rfl) (by decide) (by decide)))))
      (dss_cons (ds_ite (dt_cmp rfl (Room.u80 hr) (de_var (i := 4) rfl (.inl rfl) (by decide) (by decide)) (de_var (i := 3) rfl (.inl rfl) (by decide) (by decide)) (by rfl)) (dss_cons (ds_raise (c := 4) rfl (xc_NoRoom hy rfl rfl) rfl (da_cons de_str da_nil) (by decide))
      dss_nil) dss_nil)
      dss_cut)))
theorem fn_letters_long : FnP 0 prog w K mg base (GG K) 5 "letters_long" 4 f_letters_long := by
  obtain ⟨fd, F⟩ := hy.says.def_ 9 (d := ⟨at_letters_long, "letters_long", "letters_long", defArgs st_letters_long, defBody st_letters_long, defScope st_letters_long, [], []⟩) rfl
  have bd : L2.Binds K fd ["text", "wide", "gap", "most"] [] := F.bindsN fun _ _ _ _ _ _ us hl => match us, hl with | [_, _, _, _], _ => rfl
  have ok := fnD_ok (prog := prog) (w := w) (mg := mg) (base := base) (G := GG K) (Pr := P_letters_long) (p := at_letters_long) (k := 4) (n := 4) F rfl (C8.fnScope_by (N := N_letters_long) (P := ["text", "wide", "gap", "most"]) (sc := defScope st_letters_long) (by decide +kernel)) rfl (fun A outer s H E hr => ds_letters_long hy A outer s H E hr)
  exact ⟨_, fd, _, He.glo_ok hy.kin hy.ns (hy.says.fact 25), F.kp, bd, ok⟩
theorem ds_Picture_init (A : Around) (outer : List PySem.Env) (s : Shared) (H : Hp) (E : XK) (hr : Room 4 (A.deeper (envOfC "Picture.__init__" (defScope st_Picture_init) s.heap.objs.size (He.fAd K at_Picture_init) (.ref (He.codeOf K at_Picture_init))))) :
    DSs (cxOf (L2.CX prog w) prog w K mg base N_Picture_init "Picture.__init__" (defScope st_Picture_init) (He.fAd K at_Picture_init) (.ref (He.codeOf K at_Picture_init)) A outer s H E) (GG K) P_Picture_init (defBody st_Picture_init) S_Picture_init :=
  (dss_cons (ds_ite (dt_dw (dw_orr (dt_cmp rfl (Room.u80 hr) (de_len rfl rfl (B hy).len (da_cons (de_var (i := 1) rfl (.inr (.inl rfl)) (by decide) (by decide)) da_nil)) de_int (by rfl)) (dw_orr (dt_cmp rfl (Room.u80 hr) (de_idx (Room.u80 hr) rfl (de_var (i := 1) rfl (.inr (.inl rfl)) (by decide) (by decide)) de_int (fun _ _ => rfl)) de_str (by rfl)) (dw_orr1 (dt_val (de_gen (gk := .any) (k := 3) hr rfl (B hy).any (tab_d_Picture_init hy ⟨rfl, rfl⟩ rfl rfl) rfl nd_d_Picture_init ⟨blkOk_by (own := [("row", 2)]) (by kernel_rfl), by decide +kernel, by decide +kernel, by decide +kernel⟩ rfl (di_seq rfl (de_var (i := 1) rfl (.inr (.inl rfl)) (by decide) (by decide))) (fun _ _ _ _ _ _ r4 => (dg_nm (i := 2) nd_d_Picture_init rfl (.inl rfl) (by first | exact .inl rfl | exact .inr rfl))) (fun _ _ _ _ _ _ r4 => dts_nil) (fun _ _ _ _ _ _ r4 => (de_cmp rfl (Room.u80 r4) (de_len rfl rfl (B hy).len (da_cons (de_var (i := 2) rfl (.inl rfl) (by decide) (by decide)) da_nil)) (de_len rfl rfl (B hy).len (da_cons (de_idx (Room.u80 r4) rfl (de_var (i := 1) rfl (.inr (.inr rfl)) (by decide) (by decide)) de_int (fun _ _ => rfl)) da_nil)) (by rfl))))))))) (dss_cons (ds_raise (c := 2) rfl (xc_BadPlan hy rfl rfl) rfl (da_cons de_str da_nil) (by decide))
      dss_nil) dss_nil)
      dss_cut)
theorem nw_Picture : NwP 0 prog w K mg base (GG K) 5 "Picture" 2 1 f_Picture_init := by
  obtain ⟨fd, F⟩ := hy.says.def_ 10 (d := ⟨at_Picture_init, "__init__", "Picture.__init__", defArgs st_Picture_init, defBody st_Picture_init, defScope st_Picture_init, [], []⟩) rfl
  have bd : L2.Binds K fd ["self", "rows"] [] := F.bindsN fun _ _ _ _ _ _ us hl => match us, hl with | [_, _], _ => rfl
  have ok := fnD_ok (prog := prog) (w := w) (mg := mg) (base := base) (G := GG K) (Pr := P_Picture_init) (p := at_Picture_init) (k := 4) (n := 2) F rfl (C8.fnScope_by (N := N_Picture_init) (P := ["self", "rows"]) (sc := defScope st_Picture_init) (by decide +kernel)) rfl (fun A outer s H E hr => ds_Picture_init hy A outer s H E hr)
  exact ⟨_, _, _, fd, _, He.glo_ok hy.kin hy.ns (hy.says.fact 45), rfl, He.mkr_ok (hy.says.fact 47), bd, ok⟩
theorem ds__law_dice (A : Around) (outer : List PySem.Env) (s : Shared) (H : Hp) (E : XK) (hr : Room 4 (A.deeper (envOfC "_law_dice" (defScope st__law_dice) s.heap.objs.size (He.fAd K at__law_dice) (.ref (He.codeOf K at__law_dice))))) :
    DSs (cxOf (L2.CX prog w) prog w K mg base N__law_dice "_law_dice" (defScope st__law_dice) (He.fAd K at__law_dice) (.ref (He.codeOf K at__law_dice)) A outer s H E) (GG K) P__law_dice (defBody st__law_dice) S__law_dice :=
  (dss_cons (ds_ite (dt_cmp3 rfl (Room.u80 hr) (de_bin rfl de_int de_int) (de_var (i := 0) rfl (.inl rfl) (by decide) (by decide)) de_int (by rfl)) (dss_cons (ds_ret (de_lst (da_cons (de_abs rfl (B hy).abs (da_cons (de_var (i := 0) rfl (.inl rfl) (by decide) (by decide)) da_nil)) (da_cons de_int (da_cons de_int da_nil))) (by decide)))
      dss_nil) dss_nil)
      (dss_cons (ds_ret (de_lst (da_cons (de_var (i := 0) rfl (.inl rfl) (by decide) (by decide)) (da_cons (de_bin rfl de_int (de_bin rfl (de_intc rfl (B hy).int (da_cons (de_var (i := 0) rfl (.inl rfl) (by decide) (by decide)) da_nil)) de_int)) (da_cons (de_intc rfl (B hy).int (da_cons (de_cmp rfl (Room.u80 hr) (de_var (i := 0) rfl (.inl rfl) (by decide) (by decide)) (de_bin rfl de_int de_int) (by rfl)) da_nil)) da_nil))) (by decide)))
      dss_nil))
theorem fn__law_dice : FnP 0 prog w K mg base (GG K) 5 "_law_dice" 1 f__law_dice := by
  obtain ⟨fd, F⟩ := hy.says.def_ 11 (d := ⟨at__law_dice, "_law_dice", "_law_dice", defArgs st__law_dice, defBody st__law_dice, defScope st__law_dice, [], []⟩) rfl
  have bd : L2.Binds K fd ["cell"] [] := F.bindsN fun _ _ _ _ _ _ us hl => match us, hl with | [_], _ => rfl
  have ok := fnD_ok (prog := prog) (w := w) (mg := mg) (base := base) (G := GG K) (Pr := P__law_dice) (p := at__law_dice) (k := 4) (n := 1) F rfl (C8.fnScope_by (N := N__law_dice) (P := ["cell"]) (sc := defScope st__law_dice) (by decide +kernel)) rfl (fun A outer s H E hr => ds__law_dice hy A outer s H E hr)
  exact ⟨_, fd, _, He.glo_ok hy.kin hy.ns (hy.says.fact 26), F.kp, bd, ok⟩
theorem ds__law_roll (A : Around) (outer : List PySem.Env) (s : Shared) (H : Hp) (E : XK) (hr : Room 4 (A.deeper (envOfC "_law_roll" (defScope st__law_roll) s.heap.objs.size (He.fAd K at__law_roll) (.ref (He.codeOf K at__law_roll))))) :
    DSs (cxOf (L2.CX prog w) prog w K mg base N__law_roll "_law_roll" (defScope st__law_roll) (He.fAd K at__law_roll) (.ref (He.codeOf K at__law_roll)) A outer s H E) (GG K) P__law_roll (defBody st__law_roll) S__law_roll :=
  (dss_cons (ds_ite (dt_dw (dw_orr (dt_cmp rfl (Room.u80 hr) (de_idx (Room.u80 hr) rfl (de_var (i := 0) rfl (.inl rfl) (by decide) (by decide)) de_int (fun _ _ => rfl)) de_int (by rfl)) (dw_orr1 (dt_dw (dw_an (dt_cmp rfl (Room.u80 hr) (de_idx (Room.u80 hr) rfl (de_var (i := 0) rfl (.inl rfl) (by decide) (by decide)) de_int (fun _ _ => rfl)) de_int (by rfl)) (dw_an1 (dt_cmp rfl (Room.u80 hr) (de_idx (Room.u80 hr) rfl (de_var (i := 0) rfl (.inl rfl) (by decide) (by decide)) de_int (fun _ _ => rfl)) de_int (by rfl)))))))) (dss_cons (ds_set (i := 2) (lv := 0) nd_d__law_roll rfl (.inl rfl) (by first | exact .inl rfl | exact .inr rfl) (de_bin rfl (de_intc rfl (B hy).int (da_cons (de_idx (Room.u80 hr) rfl (de_var (i := 0) rfl (.inl rfl) (by decide) (by decide)) de_int (fun _ _ => rfl)) da_nil)) (de_var (i := 1) rfl (.inl rfl) (by decide) (by decide))))
      (dss_cons (ds_seti (de_var (i := 0) rfl (.inl rfl) (by decide) (by decide)) de_int (de_bin rfl (de_idx (Room.u80 hr) rfl (de_var (i := 0) rfl (.inl rfl) (by decide) (by decide)) de_int (fun _ _ => rfl)) (de_var (i := 1) rfl (.inl rfl) (by decide) (by decide))))
      (dss_cons (ds_ret (de_var (i := 2) rfl (.inl rfl) (by decide) (by decide)))
      dss_nil))) dss_nil)
      (dss_cons (ds_seti (de_var (i := 0) rfl (.inl rfl) (by decide) (by decide)) de_int de_int)
      (dss_cons (ds_seti (de_var (i := 0) rfl (.inl rfl) (by decide) (by decide)) de_int (de_bin rfl (de_intc rfl (B hy).int (da_cons (de_bin rfl (de_bin rfl (de_bin rfl (de_idx (Room.u80 hr) rfl (de_var (i := 0) rfl (.inl rfl) (by decide) (by decide)) de_int (fun _ _ => rfl)) de_int) (de_bin rfl (de_idx (Room.u80 hr) rfl (de_var (i := 0) rfl (.inl rfl) (by decide) (by decide)) de_int (fun _ _ => rfl)) de_int)) de_int) da_nil)) de_int))
      (dss_cons (ds_seti (de_var (i := 0) rfl (.inl rfl) (by decide) (by decide)) de_int (de_bin rfl (de_idx (Room.u80 hr) rfl (de_var (i := 0) rfl (.inl rfl) (by decide) (by decide)) de_int (fun _ _ => rfl)) de_int))
      (dss_cons (ds_ret (de_bin rfl (de_intc rfl (B hy).int (da_cons (de_bin rfl (de_bin rfl (de_idx (Room.u80 hr) rfl (de_var (i := 0) rfl (.inl rfl) (by decide) (by decide)) de_int (fun _ _ => rfl)) de_int) (de_idx (Room.u80 hr) rfl (de_var (i := 0) rfl (.inl rfl) (by decide) (by decide)) de_int (fun _ _ => rfl))) da_nil)) (de_var (i := 1) rfl (.inl rfl) (by decide) (by decide))))
      dss_nil)))))
theorem fn__law_roll : FnP 0 prog w K mg base (GG K) 5 "_law_roll" 2 f__law_roll := by
  obtain ⟨fd, F⟩ := hy.says.def_ 12 (d := ⟨at__law_roll, "_law_roll", "_law_roll", defArgs st__law_roll, defBody st__law_roll, defScope st__law_roll, [], []⟩) rfl
  have bd : L2.Binds K fd ["dice", "many"] [] := F.bindsN fun _ _ _ _ _ _ us hl => match us, hl with | [_, _], _ => rfl
  have ok := fnD_ok (prog := prog) (w := w) (mg := mg) (base := base) (G := GG K) (Pr := P__law_roll) (p := at__law_roll) (k := 4) (n := 2) F rfl (C8.fnScope_by (N := N__law_roll) (P := ["dice", "many"]) (sc := defScope st__law_roll) (by decide +kernel)) rfl (fun A outer s H E hr => ds__law_roll hy A outer s H E hr)
  exact ⟨_, fd, _, He.glo_ok hy.kin hy.ns (hy.says.fact 27), F.kp, bd, ok⟩
theorem ds__law_rounds (A : Around) (outer : List PySem.Env) (s : Shared) (H : Hp) (E : XK) (hr : Room 9 (A.deeper (envOfC "_law_rounds" (defScope st__law_rounds) s.heap.objs.size (He.fAd K at__law_rounds) (.ref (He.codeOf K at__law_rounds))))) :
    DSs (cxOf (L2.CX prog w) prog w K mg base N__law_rounds "_law_rounds" (defScope st__law_rounds) (He.fAd K at__law_rounds) (.ref (He.codeOf K at__law_rounds)) A outer s H E) (GG K) P__law_rounds ((defBody st__law_rounds).tail) S__law_rounds :=
  (dss_cons (ds_ite (dt_cmp rfl (Room.u80 hr) (de_var (i := 2) rfl (.inl rfl) (by decide) (by decide)) (de_lst da_nil (by decide)) (by rfl)) (dss_cons (ds_set (i := 2) (lv := 0) nd_d__law_rounds rfl (.inl rfl) (by first | exact .inl rfl | exact .inr rfl) (de_lst (da_cons de_int da_nil) (by decide)))
      dss_nil) dss_nil)
      (dss_cons (ds_ret (de_lc rfl nd_d__law_rounds (di_seq rfl (de_var (i := 2) rfl (.inl rfl) (by decide) (by decide))) (blkOk_by (own := [("cell", 3)]) (by kernel_rfl)) rfl (fun _ _ _ _ _ => (dg_nm (i := 3) nd_d__law_rounds rfl (.inl rfl) (by first | exact .inl rfl | exact .inr rfl))) (fun _ _ _ _ _ => dts_nil) (fun _ _ _ _ _ => (de_fn (FnP.fn (fn__law_dice hy)) (hr.mono (by decide)) rfl (da_cons (de_var (i := 3) rfl (.inl rfl) (by decide) (by decide)) da_nil) rfl))))
      dss_nil))
theorem ds_law (A : Around) (outer : List PySem.Env) (s : Shared) (H : Hp) (E : XK) (hr : Room 14 (A.deeper (envOfC "law" (defScope st_law) s.heap.objs.size (He.fAd K at_law) (.ref (He.codeOf K at_law))))) :
    DSs (cxOf (L2.CX prog w) prog w K mg base N_law "law" (defScope st_law) (He.fAd K at_law) (.ref (He.codeOf K at_law)) A outer s H E) (GG K) P_law (PV.forBody st_law) S_law :=
  (dss_cons (ds_sett (dg_tp rfl rfl (dgs_cons (dg_nm (i := 5) nd_d_law rfl (.inr rfl) (by first | exact .inl rfl | exact .inr rfl)) (dgs_cons (dg_nm (i := 4) nd_d_law rfl (.inr rfl) (by first | exact .inl rfl | exact .inr rfl)) dgs_nil))) (de_tup (da_cons (de_bin rfl de_int (de_fn (FnP.fn (fn__law_roll hy)) (hr.mono (by decide)) rfl (da_cons (de_var (i := 1) rfl (.inl rfl) (by decide) (by decide)) (da_cons de_int da_nil)) rfl)) (da_cons (de_new0 (NwP.nw (nw_Desk hy)) (fun _ _ e => by cases e; rfl) (hr.mono (by decide)) rfl) da_nil)) (by decide)))
      (dss_underL (iw := 2) (ik := 3) (kr := 12) (c1 := und1 K) (c2 := und2 K) (c3 := und3 K) rfl (und_ok hy) rfl hr (clsSay_of hy.und) (Nat.le_of_ble_eq_true rfl) nd_d_law rfl rfl rfl (.inr rfl) (by first | exact .inl rfl | exact .inr rfl) (by decide) (.cons (tab_d_law hy ⟨rfl, rfl⟩ rfl rfl) (lamS_by (by kernel_rfl)) (by intros; rfl) (fun _ _ _ _ _ _ _ r5 => (de_meth0 rfl (cls_Desk hy) (by decide) (MtP.mt (mt_Desk_undo hy)) (r5.mono (by decide)) (de_var (i := 4) rfl (.inr (.inr rfl)) (by decide) (by decide)))) (.cons (tab_d_law hy ⟨rfl, rfl⟩ rfl rfl) (lamS_by (by kernel_rfl)) (by intros; rfl) (fun _ _ _ _ _ _ _ r6 => (de_new (NwP.nw (nw_Picture hy)) (fun _ _ e => by cases e; rfl) (r6.mono (by decide)) rfl (da_cons (de_lst (da_cons (de_bin rfl de_str (de_var (i := 5) rfl (.inr (.inr rfl)) (by decide) (by decide))) (da_cons (de_bin rfl de_str (de_bin rfl (de_var (i := 5) rfl (.inr (.inr rfl)) (by decide) (by decide)) de_int)) da_nil)) (by decide)) da_nil) rfl)) (.cons (tab_d_law hy ⟨rfl, rfl⟩ rfl rfl) (lamS_by (by kernel_rfl)) (by intros; rfl) (fun _ _ _ _ _ _ _ r7 => (de_fn (FnP.fn (fn_round_area hy)) (r7.mono (by decide)) rfl (da_cons (de_bin rfl de_int (de_var (i := 5) rfl (.inr (.inr rfl)) (by decide) (by decide))) da_nil) rfl)) (.cons (tab_d_law hy ⟨rfl, rfl⟩ rfl rfl) (lamS_by (by kernel_rfl)) (by intros; rfl) (fun _ _ _ _ _ _ _ r8 => (de_fn (FnP.fn (fn_read_line hy)) (r8.mono (by decide)) rfl (da_cons (de_bin rfl de_str (de_var (i := 5) rfl (.inr (.inr rfl)) (by decide) (by decide))) da_nil) rfl)) (.cons (tab_d_law hy ⟨rfl, rfl⟩ rfl rfl) (lamS_by (by kernel_rfl)) (by intros; rfl) (fun _ _ _ _ _ _ _ r9 => (de_fn (FnP.fn (fn_letters_long hy)) (r9.mono (by decide)) rfl (da_cons (de_bin rfl de_str (de_var (i := 5) rfl (.inr (.inr rfl)) (by decide) (by decide))) (da_cons de_int (da_cons de_int (da_cons (de_var (i := 5) rfl (.inr (.inr rfl)) (by decide) (by decide)) da_nil)))) rfl)) (.cons (tab_d_law hy ⟨rfl, rfl⟩ rfl rfl) (lamS_by (by kernel_rfl)) (by intros; rfl) (fun _ _ _ _ _ _ _ r10 => (de_fn (FnP.fn (fn_bears_of hy)) (r10.mono (by decide)) rfl (da_cons (de_bin rfl de_str (de_var (i := 5) rfl (.inr (.inr rfl)) (by decide) (by decide))) da_nil) rfl)) (.cons (tab_d_law hy ⟨rfl, rfl⟩ rfl rfl) (lamS_by (by kernel_rfl)) (by intros; rfl) (fun _ _ _ _ _ _ _ r11 => (de_fn (FnP.fn (fn_closed_off hy)) (r11.mono (by decide)) rfl (da_cons de_int (da_cons (de_lst (da_cons (de_var (i := 5) rfl (.inr (.inr rfl)) (by decide) (by decide)) (da_cons (de_var (i := 5) rfl (.inr (.inr rfl)) (by decide) (by decide)) da_nil)) (by decide)) (da_cons (de_var (i := 5) rfl (.inr (.inr rfl)) (by decide) (by decide)) da_nil))) rfl)) (.cons (tab_d_law hy ⟨rfl, rfl⟩ rfl rfl) (lamS_by (by kernel_rfl)) (by intros; rfl) (fun _ _ _ _ _ _ _ r12 => (de_meth rfl (cls_Bed hy) (by decide) (MtP.mt (mt_Bed_check hy)) (r12.mono (by decide)) (de_new (NwP.nw (nw_Bed hy)) (fun _ _ e => by cases e; rfl) (r12.mono (by decide)) rfl (da_cons (de_lst da_nil (by decide)) (da_cons de_str da_nil)) rfl) (da_cons (de_bin rfl de_int (de_var (i := 5) rfl (.inr (.inr rfl)) (by decide) (by decide))) (da_cons de_int da_nil)) rfl)) .nil)))))))) (by decide) (de_fn (FnP.fn (fn__law_roll hy)) (hr.mono (by decide)) rfl (da_cons (de_var (i := 1) rfl (.inl rfl) (by decide) (by decide)) (da_cons de_int da_nil)) rfl) (de_bin rfl (de_lc rfl nd_d_law (di_rng1 rfl (B hy).range (da_cons de_int da_nil)) (blkOk_by (own := [("j", 6)]) (by kernel_rfl)) rfl (fun _ _ _ _ _ => (dg_nm (i := 6) nd_d_law rfl (.inl rfl) (by first | exact .inl rfl | exact .inr rfl))) (fun _ _ _ _ _ => dts_nil) (fun _ _ _ _ _ => (de_cmp rfl (Room.u80 hr) (de_var (i := 6) rfl (.inl rfl) (by decide) (by decide)) (de_var (i := 3) rfl (.inr (.inl rfl)) (by decide) (by decide)) (by rfl)))) (de_lst (da_cons de_bl da_nil) (by decide))) (dss_cons (ds_ret de_bl)
      dss_nil) (Room.u80 hr)))
end
end PV.L_k21_refusals_apart

/-! part K21f -/

namespace PV.L_k21_refusals_apart
open PySem L2 PV
@[simp] theorem pf_Bed_init_1 : P_Bed_init.fn 1 = f_bears_of := rfl
@[simp] theorem pf_Bed_check_1 : P_Bed_check.fn 1 = f_bears_of := rfl
@[simp] theorem pf_Bed_check_3 : P_Bed_check.fn 3 = f_Bed_pressures := rfl
@[simp] theorem pf_law_12 : P_law.fn 12 = f__law_roll := rfl
@[simp] theorem pn_law_1 : P_law.new 1 = newI 1 3 f_Desk_init := rfl
@[simp] theorem pf_law_7 : P_law.fn 7 = f_Desk_undo := rfl
@[simp] theorem pn_law_2 : P_law.new 2 = newI 2 1 f_Picture_init := rfl
@[simp] theorem pf_law_0 : P_law.fn 0 = f_round_area := rfl
@[simp] theorem pf_law_5 : P_law.fn 5 = f_read_line := rfl
@[simp] theorem pf_law_9 : P_law.fn 9 = f_letters_long := rfl
@[simp] theorem pf_law_1 : P_law.fn 1 = f_bears_of := rfl
@[simp] theorem pf_law_8 : P_law.fn 8 = f_closed_off := rfl
@[simp] theorem pf_law_4 : P_law.fn 4 = f_Bed_check := rfl
@[simp] theorem pn_law_0 : P_law.new 0 = newI 0 2 f_Bed_init := rfl
theorem roll {m a b c : Int} {Q : D → Sto → Prop} {X : Nat → D → Sto → Prop} (h0 : 0 < m) (h1 : m < 1073741824) (h : ∀ k a' b' c', 0 ≤ k → k < m → Q (.int k) (dst a' b' c')) : Wp (f__law_roll [.ref 0, .int m]) (dst a b c) Q X := roll_wp h0 h1 h
end PV.L_k21_refusals_apart

/-! part K21m -/
namespace PV.L_k21_refusals_apart
open PySem L2 PV TL
theorem newI_at {c n : Nat} {init : List D → M D} {ds es : List D} {st : Sto} (hn : es.length = n) (h : init (.ref st.length :: ds) (st ++ [.ni c []]) = .ok .non (st ++ [.ni c (es.map fun d => (0, d))])) : newI c n init ds st = .ok (.ins c es) st := by
  unfold newI
  rw [h]
  simp only
  rw [if_pos (by simp)]
  have e : (st ++ [Nd.ni c (es.map fun d => ((0 : Nat), d))])[st.length]? = some (.ni c (es.map fun d => (0, d))) := by simp
  rw [e]
  simp only
  rw [if_pos trivial]
  have m : ∀ (es : List D) , madeO es.length (es.map fun d => ((0 : Nat), d)) = some es := by
    intro es
    induction es with
    | nil => rfl
    | cons d es ih =>
      show madeO (es.length + 1) ((0, d) :: es.map fun d => ((0 : Nat), d)) = _
      unfold madeO
      simp [ih]
  rw [← hn, m]
  simp
theorem newI_ex {c n e : Nat} {p : D} {init : List D → M D} {ds : List D} {st : Sto} {r : List Nd} (hp : plainX p = true) (h : init (.ref st.length :: ds) (st ++ [.ni c []]) = .ex e p (st ++ r)) : newI c n init ds st = .ex e p st := by
  unfold newI
  rw [h]
  simp [hp]
abbrev deskD : D := .ins 1 [.str "1 yard laid 9\n2 lane laid 4\n3 yard cracked 2\n3 yard mended 1", .lst [], .lst []]
theorem desk_new (st : Sto) : newI 1 3 f_Desk_init [] st = .ok deskD st := by
  refine newI_at (es := [.str "1 yard laid 9\n2 lane laid 4\n3 yard cracked 2\n3 yard mended 1", .lst [], .lst []]) rfl (ok_of_wp ?_)
  unfold f_Desk_init
  rw [wp_runF]
  unfold S_Desk_init
  simp only [List.map_cons, List.map_nil, List.length_cons, List.length_nil]
  refine stepB ?_
  refine step ?_
  simp
  rw [wp_setf_new (fs' := [(0, .str "1 yard laid 9\n2 lane laid 4\n3 yard cracked 2\n3 yard mended 1")]) (by rfl)]
  refine step ?_
  simp
  rw [wp_setf_new (fs' := [(0, .str "1 yard laid 9\n2 lane laid 4\n3 yard cracked 2\n3 yard mended 1"), (0, .lst [])]) (by rfl)]
  refine step ?_
  simp
  rw [wp_setf_new (fs' := [(0, .str "1 yard laid 9\n2 lane laid 4\n3 yard cracked 2\n3 yard mended 1"), (0, .lst []), (0, .lst [])]) (by rfl)]
  try simp
theorem undo_ex (st : Sto) : f_Desk_undo [deskD] st = .ex 8 .non st := by kernel_rfl
theorem round_ex {m : Int} (hm : 1 ≤ m) (st : Sto) : f_round_area [.int (-m)] st = .ex 1 .non st := by
  refine ex_of_wp ?_
  unfold f_round_area
  rw [wp_runF]
  unfold S_round_area
  simp only [List.map_cons, List.map_nil, List.length_cons, List.length_nil]
  refine stepB ?_
  refine step_ifT ?_ ?_
  · simp
    omega
  refine step ?_
  simp
theorem closed_ex {m : Int} (hm : 1 ≤ m) (st : Sto) : f_closed_off [.int 0, .lst [.int m, .int m], .int m] st = .ex 5 .non st := by
  refine ex_of_wp ?_
  unfold f_closed_off
  rw [wp_runF]
  unfold S_closed_off
  simp only [List.map_cons, List.map_nil, List.length_cons, List.length_nil]
  refine stepB ?_
  refine step ?_
  simp
  rw [show [D.int m, .int m] = [m, m].map .int from rfl, wp_bsum]
  simp
  refine step_ifT ?_ ?_
  · simp
    omega
  refine step ?_
  simp
end PV.L_k21_refusals_apart

/-! part K21n -/
namespace PV.L_k21_refusals_apart
open PySem L2 PV TL
theorem rep_foldl (c : Nat) : ∀ (n : Nat) (b : Array Nat), ((List.replicate n (#[c] : Array Nat)).foldl (· ++ ·) b).toList = b.toList ++ List.replicate n c
  | 0, b => by simp
  | n + 1, b => by
    rw [List.replicate_succ, List.foldl_cons, rep_foldl c n]
    simp [List.replicate_succ]
theorem rep_cps (c n : Nat) : (RT.repS ⟨#[c]⟩ n).cps.toList = List.replicate n c := by
  have := rep_foldl c n #[]
  simpa [RT.repS] using this
theorem rep_len (c n : Nat) : (RT.repS ⟨#[c]⟩ n).length = n := by
  rw [RT.repS_size]
  show n * 1 = n
  omega
/-- so many letters a, x -/
abbrev rA (n : Nat) : Str := RT.repS ⟨#[97]⟩ n
abbrev rX (n : Nat) : Str := RT.repS ⟨#[120]⟩ n
theorem okS_rep {c n : Nat} (hc : c < 128) : okS (RT.repS ⟨#[c]⟩ n) := by
  unfold okS
  simp only [gn]
  unfold PyData.strOk
  rw [← Array.all_toList, List.all_eq_true, rep_cps]
  intro d hd
  rw [(List.mem_replicate.mp hd).2]
  simp
  omega
theorem rep_ne {c n : Nat} (hn : 1 ≤ n) {z : Str} (hz : z.cps.toList.head? ≠ some c) : RT.repS ⟨#[c]⟩ n ≠ z := fun e => by
  subst e
  rw [rep_cps] at hz
  obtain ⟨k, rfl⟩ : ∃ k, n = k + 1 := ⟨n - 1, by omega⟩
  simp [List.replicate_succ] at hz
@[simp] theorem wp_blenS {z : Str} {k : Kd} {st : Sto} {X : Nat → D → Sto → Prop} {Q : KD → Sto → Prop} : Wp (biD .len [(k, .str z)]) st Q X ↔ szOk z.length = true ∧ Q (.fz, .int z.length) st := wp_ifno
theorem wp_ninS {c : Nat} {z : Str} {st : Sto} {X : Nat → D → Sto → Prop} {Q : Bool → Sto → Prop} : Wp (cmpD .NotIn (.str ⟨#[c]⟩) (.str z)) st Q X ↔ Q (!decide (c ∈ z.cps.toList)) st := by
  have e : cmpD .NotIn (.str ⟨#[c]⟩) (.str z) = (ofO (inD (.str ⟨#[c]⟩) (.str z)) >>= fun b => pure (!b) : M Bool) := rfl
  rw [e, show inD (.str ⟨#[c]⟩) (.str z) = some (decide (c ∈ z.cps.toList)) from rfl]
  simp
theorem read_ex {n : Nat} (hn : n ≤ 100) (st : Sto) : f_read_line [.str (rX n)] st = .ex 7 (.int 0) st := by
  have hs : Txt.split (rX n) " " = [rX n] := TL.split_join (y := " ") (s := 32) (S := []) (parts := [rX n]) rfl (by decide +kernel) (by simp) fun x hx => by
    rw [List.mem_singleton.mp hx]
    show 32 ∉ (rX n).cps.toList
    rw [rep_cps]
    intro h
    have := (List.mem_replicate.mp h).2
    omega
  refine ex_of_wp ?_
  unfold f_read_line
  rw [wp_runF]
  unfold S_read_line
  simp only [List.map_cons, List.map_nil, List.length_cons, List.length_nil]
  refine stepB ?_
  refine step ?_
  have hl : (rX n).length ≤ 10000000 := by rw [rep_len]; omega
  generalize rX n = t at hs hl ⊢
  simp
  rw [show okM .join (.str t) = true from rfl, if_pos rfl]
  simp
  rw [wp_splitD (by decide) hl, hs]
  simp
  refine step_ifT ?_ ?_
  · simp
  refine step ?_
  simp
theorem bears_ex {n : Nat} (hn : 1 ≤ n) (st : Sto) : f_bears_of [.str (rX n)] st = .ex 3 .non st := by
  have ok : okS (rX n) := okS_rep (by omega)
  have ne : ∀ z : Str, z.cps.toList.head? ≠ some 120 → z ≠ rX n := fun z hz e => rep_ne hn hz e.symm
  generalize rX n = t at ok ne ⊢
  refine ex_of_wp ?_
  unfold f_bears_of
  rw [wp_runF]
  unfold S_bears_of
  simp only [List.map_cons, List.map_nil, List.length_cons, List.length_nil]
  refine stepB ?_
  refine step ?_
  simp
  rw [show P_bears_of.con 0 = some con_BEARS from rfl]
  unfold con_BEARS
  simp
  refine wp_for_pre (g := fun q : Str × Int => D.tup [.str q.1, .int q.2]) (E := fun done ρ s => s = st ∧ ∃ u v, ρ = [some (0, .str t), u, v]) [(("clay" : Str), (2 : Int)), ("sand", 4), ("gravel", 8), ("hardcore", 12), ("concrete", 40)] _ _ ⟨rfl, none, none, rfl⟩ ?_ ?_
  · rintro done x rest ρ s e ⟨rfl, u, v, rfl⟩
    have hx : okS x.1 ∧ x.1.cps.toList.head? ≠ some 120 := by
      have : x ∈ [(("clay" : Str), (2 : Int)), ("sand", 4), ("gravel", 8), ("hardcore", 12), ("concrete", 40)] := by rw [e]; simp
      simp at this
      rcases this with rfl | rfl | rfl | rfl | rfl <;> exact ⟨by unfold okS; decide +kernel, by decide +kernel⟩
    have := ne x.1 hx.2
    rw [wp_bind]
    simp
    rw [eqD_names hx.1 ok]
    simp [this]
  · rintro ρ s ⟨rfl, u, v, rfl⟩
    refine step ?_
    simp
end PV.L_k21_refusals_apart

/-! part K21o -/
namespace PV.L_k21_refusals_apart
open PySem L2 PV TL
theorem letters_ex {n : Nat} (h0 : 1 ≤ n) (h1 : n ≤ 100) (st : Sto) : f_letters_long [.str (rA n), .int 2, .int 0, .int n] st = .ex 4 .non st := by
  have hl : (rA n).length = n := rep_len 97 n
  have hc : ∀ c ∈ (rA n).cps.toList, c = 97 := fun c hc => by
    rw [rep_cps] at hc
    exact (List.mem_replicate.mp hc).2
  generalize rA n = z at hl hc ⊢
  refine ex_of_wp ?_
  unfold f_letters_long
  rw [wp_runF]
  unfold S_letters_long
  simp only [List.map_cons, List.map_nil, List.length_cons, List.length_nil]
  refine stepB ?_
  have hz : szOk z.length = true := szOk_of (by omega)
  refine step_chk ?_ ?_
  · simp
    refine ⟨hz, ?_⟩
    refine wp_gen_any (g := fun c => D.str ⟨#[c]⟩) (f := fun _ => false) z.cps.toList (fun x hx st => ?_) ?_
    · simp [wp_genM]
      rw [wp_ninS, hc x hx]
      have : (97 : Nat) ∈ (Str.ofString "abcdefghijklmnopqrstuvwxyz").cps.toList := by decide +kernel
      simp [this]
    · rw [show (z.cps.toList.any fun _ => false) = false by simp]
      simp
  refine step ?_
  simp
  rw [hl]
  refine ⟨szOk_of (by omega), mulOk_r (by omega), szOk_of (by omega), mulOk_r (by omega), ?_⟩
  refine step_ifT ?_ ?_
  · simp
    omega
  refine step ?_
  simp
theorem pic_ex {n : Nat} (h0 : 1 ≤ n) (h1 : n ≤ 100) (st : Sto) : newI 2 1 f_Picture_init [.lst [.str (rA n), .str (rA (n + 1))]] st = .ex 2 .non st := by
  have hl : (rA n).length = n := rep_len 97 n
  have hl2 : (rA (n + 1)).length = n + 1 := rep_len 97 (n + 1)
  have ok : okS (rA n) := okS_rep (by omega)
  have ne : rA n ≠ "" := rep_ne h0 (by decide +kernel)
  generalize rA n = z at hl ok ne ⊢
  generalize rA (n + 1) = z2 at hl2 ⊢
  refine newI_ex (r := [.ni 2 []]) rfl (ex_of_wp ?_)
  unfold f_Picture_init
  rw [wp_runF]
  unfold S_Picture_init
  simp only [List.map_cons, List.map_nil, List.length_cons, List.length_nil]
  refine stepB ?_
  refine step_ifT ?_ ?_
  · simp
    rw [eqD_names ok (show okS "" by unfold okS; decide +kernel)]
    simp [ne]
    refine wp_gen_any (g := D.str) (f := fun x => decide (x.length ≠ n)) [z, z2] (fun x hx st => ?_) ?_
    · simp [wp_genM]
      simp at hx
      have hx2 : x.length ≤ 1000 := by rcases hx with rfl | rfl <;> omega
      exact ⟨szOk_of (by omega), szOk_of (by omega), by omega⟩
    · simp [hl, hl2]
  refine step ?_
  simp
abbrev bedD : D := .ins 0 [.tup [], .str "clay"]
theorem clay (st : Sto) : f_bears_of [.str "clay"] st = .ok (.int 2) st := by kernel_rfl
theorem bed_new (st : Sto) : newI 0 2 f_Bed_init [.lst [], .str "clay"] st = .ok bedD st := by
  refine newI_at (es := [.tup [], .str "clay"]) rfl (ok_of_wp ?_)
  unfold f_Bed_init
  rw [wp_runF]
  unfold S_Bed_init
  simp only [List.map_cons, List.map_nil, List.length_cons, List.length_nil]
  refine stepB ?_
  refine step_chk ?_ ?_
  · simp [foldM_nil, gen0]
  refine step ?_
  simp
  refine step ?_
  simp
  rw [wpO (clay _)]
  refine step ?_
  simp [foldM_nil]
  rw [wp_setf_new (fs' := [(0, .tup [])]) (by rfl)]
  refine step ?_
  simp
  rw [wp_setf_new (fs' := [(0, .tup []), (0, .str "clay")]) (by rfl)]
  try simp
theorem press_ok {m : Int} (h0 : 1 ≤ m) (h1 : m ≤ 100) (st : Sto) : f_Bed_pressures [bedD, .int (9 * m), .int 1] st = .ok (.tup [.tup [.str "clay", .int (9 * m)]]) st := by
  refine ok_of_wp ?_
  unfold f_Bed_pressures
  rw [wp_runF]
  unfold S_Bed_pressures
  simp only [List.map_cons, List.map_nil, List.length_cons, List.length_nil]
  refine stepB ?_
  refine step_chk ?_ ?_
  · have c1 : ¬ 9 * m < 0 := by omega
    simp [c1]
  have m2 := fun j => mulOk_l (i := 2) (j := j) (by omega)
  have m4 := fun j => mulOk_l (i := 4) (j := j) (by omega)
  refine step ?_
  simp [m2]
  refine step ?_
  simp
  refine ⟨szOk_of (by omega), ?_⟩
  refine wp_for_pre (g := fun q : Str × Int => D.tup [.str q.1, .int q.2]) (E := fun done ρ s' => s' = st ∧ ((done = [] ∧ ρ = [some (0, bedD), some (0, .int (9 * m)), some (0, .int 1), some (1, .lst []), some (0, .int 2), none, none]) ∨ (done ≠ [] ∧ ∃ u v w, ρ = [some (0, bedD), some (0, .int (9 * m)), some (0, .int 1), some (1, .lst [.tup [.str "clay", .int (9 * m)]]), u, v, w]))) [(("clay" : Str), (0 : Int))] _ st ⟨rfl, .inl ⟨rfl, rfl⟩⟩ ?_ ?_
  · rintro done x rest ρ s' e ⟨rfl, h⟩
    have hd : done = [] ∧ x = (("clay" : Str), (0 : Int)) := by
      cases done with
      | nil => simp at e; exact ⟨rfl, e.1.symm⟩
      | cons a r => simp at e
    obtain ⟨rfl, rfl⟩ := hd
    rcases h with ⟨_, rfl⟩ | ⟨h, _⟩
    · have hq : -(-(4 * (9 * m)) / 4) = 9 * m := by omega
      simp [m2, m4]
      exact ⟨divOk_of (by omega), szOk_of (by omega), hq⟩
    · exact absurd rfl h
  · rintro ρ s' ⟨rfl, h⟩
    rcases h with ⟨h, _⟩ | ⟨_, u, v, w, rfl⟩
    · cases h
    · refine step ?_
      simp
theorem check_ex {m : Int} (h0 : 1 ≤ m) (h1 : m ≤ 100) (st : Sto) : f_Bed_check [bedD, .int (9 * m), .int 1] st = .ex 6 .non st := by
  refine ex_of_wp ?_
  unfold f_Bed_check
  rw [wp_runF]
  unfold S_Bed_check
  simp only [List.map_cons, List.map_nil, List.length_cons, List.length_nil]
  refine stepB ?_
  refine step_ifT ?_ ?_
  · simp
    rw [wpO (press_ok h0 h1 st)]
    simp
    refine wp_gen_any (g := fun q : Str × Int => D.tup [.str q.1, .int q.2]) (f := fun _ => true) [(("clay" : Str), 9 * m)] (fun q hq st => ?_) ?_
    · simp at hq
      subst hq
      simp [wp_genM]
      rw [wpO (clay _)]
      simp
      omega
    · simp
  refine step ?_
  simp
end PV.L_k21_refusals_apart

/-! part K21p -/
namespace PV.L_k21_refusals_apart
open PySem L2 PV TL
theorem due_ok {kk : Int} {m : Nat} {bs : List Bool} {st : Sto} (hb : eqD (.lst (bs.map .bl)) (.lst ((rangeI 0 8).map (fun j => D.bl (decide (j = kk))) ++ [.bl true])) = some true) :
    szOk 8 = true ∧ Wp (foldM (fun acc d => calm (lcM P_law (.cmp .Eq (.var 6) (.var 3)) (.nm 6) [] [none, some (0, .ref 0), none, some (0, .int kk), some (0, deskD), some (0, .int m), none] acc d)) (List.map D.int (rangeI 0 8)) []) st
      (fun ys s => szOk (ys.length + 1) = true ∧ Wp (ofO (eqD (.lst (bs.map .bl)) (.lst (ys ++ [.bl true])))) s (fun c_1 s => c_1 = true ∧ s = st) fun _ _ _ => False) fun _ _ _ => False := by
  refine ⟨szOk_of (by omega), ?_⟩
  refine wp_lc_mapS (g := D.int) (h := fun j => .bl (decide (j = kk))) (rangeI 0 8) (fun j hj acc => ?_) ?_
  · simp [wp_lcM, lvE]
  refine ⟨szOk_of (by rw [List.length_map, rangeI_length]; omega), ?_⟩
  rw [hb]
  simp
theorem wp_mulS {a : Str} {n : Int} {k k' : Kd} {st : Sto} {X : Nat → D → Sto → Prop} {Q : KD → Sto → Prop} : Wp (binD .Mult (k, .str a) (k', .int n)) st Q X ↔ (decide (n < 2 ^ 62 ∧ -(2 ^ 62) < n) && szOk (a.length * n.toNat)) = true ∧ Q (.fz, .str (RT.repS a n.toNat)) st := wp_ifno
theorem mok {a : Str} {n : Int} (hn : 0 ≤ n ∧ n ≤ 1000) (ha : a.length = 1) : (decide (n < 2 ^ 62 ∧ -(2 ^ 62) < n) && szOk (a.length * n.toNat)) = true := by
  rw [Bool.and_eq_true, ha]
  exact ⟨decide_eq_true ⟨by omega, by omega⟩, szOk_of (by omega)⟩
theorem tn0 (m : Nat) : ((m : Int)).toNat = m := by omega
theorem tn1 (m : Nat) : ((m : Int) + 1).toNat = m + 1 := by omega
theorem sa : Str.ofString "a" = (⟨#[97]⟩ : Str) := rfl
theorem sx : Str.ofString "x" = (⟨#[120]⟩ : Str) := rfl
theorem law_wp (c0 c1 c2 : Int) : Wp (evSs P_law S_law (none :: some (0, .ref 0) :: List.replicate (N_law.length - 2) none)) (dst c0 c1 c2) (fun r _ => r.1 = .nx ∨ r.1 = .ct) fun _ _ _ => False := by
  unfold S_law N_law
  simp only [List.length_cons, List.length_nil, List.replicate]
  refine stepB ?_
  refine step ?_
  simp
  refine roll (by omega) (by omega) fun k1 a b c k10 k11 => ?_
  simp
  rw [wpO (desk_new _)]
  obtain ⟨m, hm⟩ : ∃ m : Nat, 1 + k1 = (m : Int) := ⟨(1 + k1).toNat, by omega⟩
  rw [hm]
  have m0 : 1 ≤ m := by omega
  have m1 : m ≤ 100 := by omega
  simp
  refine step (wp_noneS rfl ?_)
  refine step ?_
  simp
  refine roll (by omega) (by omega) fun k a b c k0 k8 => ?_
  have hk : k = ((0 : Nat) : Int) ∨ k = ((1 : Nat) : Int) ∨ k = ((2 : Nat) : Int) ∨ k = ((3 : Nat) : Int) ∨ k = ((4 : Nat) : Int) ∨ k = ((5 : Nat) : Int) ∨ k = ((6 : Nat) : Int) ∨ k = ((7 : Nat) : Int) := by omega
  rcases hk with rfl | rfl | rfl | rfl | rfl | rfl | rfl | rfl
  · refine step_ifF ?_ ?_
    · simp only [wp_cmp]
      generalize hbd : ([.meth 1 7 (.var 4) [], _, _, _, _, _, _, _] : List E) = bd
      refine wp_underE (k := 0) (l := 0) (e := .meth 1 7 (.var 4) []) ?_ ?_ ?_
      · rfl
      · subst hbd; rfl
      clear hbd bd
      simp
      rw [wpX (undo_ex _)]
      exact ⟨_, rfl, due_ok (by kernel_rfl)⟩
    simp
  · refine step_ifF ?_ ?_
    · simp only [wp_cmp]
      generalize hbd : ([.meth 1 7 (.var 4) [], _, _, _, _, _, _, _] : List E) = bd
      refine wp_underE (k := 1) (l := 0) (e := .make 2 [.lst [.bin .Mult (.lit (.str "a")) (.var 5), .bin .Mult (.lit (.str "a")) (.bin .Add (.var 5) (.lit (.int 1)))]]) ?_ ?_ ?_
      · rfl
      · subst hbd; rfl
      clear hbd bd
      simp
      rw [wp_mulS]
      refine ⟨mok (by omega) (by decide +kernel), ?_⟩
      rw [wp_mulS]
      refine ⟨mok (by omega) (by decide +kernel), ?_⟩
      refine ⟨by simp, ?_⟩
      dsimp only
      rw [tn0 m, tn1 m, sa, wpX (pic_ex m0 m1 _)]
      exact ⟨_, rfl, due_ok (by kernel_rfl)⟩
    simp
  · refine step_ifF ?_ ?_
    · simp only [wp_cmp]
      generalize hbd : ([.meth 1 7 (.var 4) [], _, _, _, _, _, _, _] : List E) = bd
      refine wp_underE (k := 2) (l := 0) (e := .call 0 [.bin .Sub (.lit (.int 0)) (.var 5)]) ?_ ?_ ?_
      · rfl
      · subst hbd; rfl
      clear hbd bd
      simp
      rw [wpX (round_ex (by omega) _)]
      exact ⟨_, rfl, due_ok (by kernel_rfl)⟩
    simp
  · refine step_ifF ?_ ?_
    · simp only [wp_cmp]
      generalize hbd : ([.meth 1 7 (.var 4) [], _, _, _, _, _, _, _] : List E) = bd
      refine wp_underE (k := 3) (l := 0) (e := .call 5 [.bin .Mult (.lit (.str "x")) (.var 5)]) ?_ ?_ ?_
      · rfl
      · subst hbd; rfl
      clear hbd bd
      simp
      rw [wp_mulS]
      refine ⟨mok (by omega) (by decide +kernel), ?_⟩
      refine ⟨rfl, ?_⟩
      dsimp only
      rw [tn0 m, sx, wpX (read_ex m1 _)]
      exact ⟨_, rfl, due_ok (by kernel_rfl)⟩
    simp
  · refine step_ifF ?_ ?_
    · simp only [wp_cmp]
      generalize hbd : ([.meth 1 7 (.var 4) [], _, _, _, _, _, _, _] : List E) = bd
      refine wp_underE (k := 4) (l := 0) (e := .call 9 [.bin .Mult (.lit (.str "a")) (.var 5), .lit (.int 2), .lit (.int 0), .var 5]) ?_ ?_ ?_
      · rfl
      · subst hbd; rfl
      clear hbd bd
      simp
      rw [wp_mulS]
      refine ⟨mok (by omega) (by decide +kernel), ?_⟩
      refine ⟨rfl, ?_⟩
      dsimp only
      rw [tn0 m, sa, wpX (letters_ex m0 m1 _)]
      exact ⟨_, rfl, due_ok (by kernel_rfl)⟩
    simp
  · refine step_ifF ?_ ?_
    · simp only [wp_cmp]
      generalize hbd : ([.meth 1 7 (.var 4) [], _, _, _, _, _, _, _] : List E) = bd
      refine wp_underE (k := 5) (l := 0) (e := .call 1 [.bin .Mult (.lit (.str "x")) (.var 5)]) ?_ ?_ ?_
      · rfl
      · subst hbd; rfl
      clear hbd bd
      simp
      rw [wp_mulS]
      refine ⟨mok (by omega) (by decide +kernel), ?_⟩
      refine ⟨rfl, ?_⟩
      dsimp only
      rw [tn0 m, sx, wpX (bears_ex m0 _)]
      exact ⟨_, rfl, due_ok (by kernel_rfl)⟩
    simp
  · refine step_ifF ?_ ?_
    · simp only [wp_cmp]
      generalize hbd : ([.meth 1 7 (.var 4) [], _, _, _, _, _, _, _] : List E) = bd
      refine wp_underE (k := 6) (l := 0) (e := .call 8 [.lit (.int 0), .lst [.var 5, .var 5], .var 5]) ?_ ?_ ?_
      · rfl
      · subst hbd; rfl
      clear hbd bd
      simp
      rw [wpX (closed_ex (by omega) _)]
      exact ⟨_, rfl, due_ok (by kernel_rfl)⟩
    simp
  · refine step_ifF ?_ ?_
    · simp only [wp_cmp]
      generalize hbd : ([.meth 1 7 (.var 4) [], _, _, _, _, _, _, _] : List E) = bd
      refine wp_underE (k := 7) (l := 0) (e := .meth 0 4 (.make 0 [.lst [], .lit (.str "clay")]) [.bin .Mult (.lit (.int 9)) (.var 5), .lit (.int 1)]) ?_ ?_ ?_
      · rfl
      · subst hbd; rfl
      clear hbd bd
      simp
      rw [wpO (bed_new _)]
      simp
      refine ⟨mulOk_l (by omega), ?_⟩
      rw [wpX (check_ex (by omega) (by omega) _)]
      exact ⟨_, rfl, due_ok (by kernel_rfl)⟩
    simp
theorem dice_ev : ∀ (i : Int) (st : Sto), ∃ c0 c1 c2, P__law_rounds.fn 11 [.int i] st = .ok (.lst [.int c0, .int c1, .int c2]) st := fun i st => dice_run i st
theorem law_ev : ∀ (c0 c1 c2 : Int), ∃ f ρ' st', evSs P_law S_law (none :: some (0, .ref 0) :: List.replicate (N_law.length - 2) none) (dst c0 c1 c2) = .ok (f, ρ') st' ∧ (f = .nx ∨ f = .ct) := by
  intro c0 c1 c2
  have h := law_wp c0 c1 c2
  unfold Wp at h
  cases e : evSs P_law S_law (none :: some (0, .ref 0) :: List.replicate (N_law.length - 2) none) (dst c0 c1 c2) with
  | ok d s =>
    rw [e] at h
    obtain ⟨f, ρ'⟩ := d
    exact ⟨f, ρ', s, rfl, h⟩
  | ex c p s => rw [e] at h; exact h.elim
  | no => rw [e] at h; exact h.elim
end PV.L_k21_refusals_apart

/-! part K21h -/
namespace PV.L_k21_refusals_apart
open PySem PySem.Spec PyProof.Rows L2 LamX NdefX PV
section
variable {prog : Program} {w : World} {K : PySem.W.Frag} {mg : Str → Option Value} {base : Heap} (hy : HY prog K mg base)
include hy
theorem fnR : ∃ fd, He.fAd K at__law_rounds = He.fAd K at__law_rounds ∧ PySem.W.keepIn K (.ref (He.fAd K at__law_rounds)) = true ∧ L2.Binds K fd ["script", "most"] [] ∧ FnOk prog w K mg base (L2.CX prog w) 10 (He.fAd K at__law_rounds) fd ["script", "most"] (spRounds (GG K)) := by
  obtain ⟨fd, F⟩ := hy.says.def_ 13 (d := ⟨at__law_rounds, "_law_rounds", "_law_rounds", defArgs st__law_rounds, defBody st__law_rounds, defScope st__law_rounds, [], []⟩) rfl
  have bd : L2.Binds K fd ["script", "most"] [] := F.bindsN fun _ _ _ _ _ _ us hl => match us, hl with | [_, _], _ => rfl
  exact ⟨fd, rfl, F.kp, bd, rounds_fn (G := GG K) (Pr := P__law_rounds) (p := at__law_rounds) (kL := 9) (fd := 11) rfl F rfl (C8.fnScope_by (by decide +kernel)) (.inl (by decide +kernel)) (.inl (by decide +kernel)) (by decide +kernel) (fun A outer s H E hr => ds__law_rounds hy A outer s H E hr) dice_ev⟩
omit hy in
theorem fnL (says : He.SaysD fa fn K) : ∃ fd, (∀ (s : Shared) (u : Value), BindsTo s fd ⟨[u], []⟩ [("script", u)]) ∧ ∀ (mg : Str → Option Value) (base : Heap), HY prog K mg base → FnOk prog w K mg base (L2.CX prog w) 15 (He.fAd K at_law) fd ["script"] (spLaw (GG K)) := by
  obtain ⟨fd, F⟩ := says.def_ 15 (d := ⟨at_law, "law", "law", defArgs st_law, defBody st_law, defScope st_law, [], []⟩) rfl
  have b := FunD.bindsA (ps := ["script"]) F fun _ _ _ _ _ _ us hl => match us, hl with | [_], _ => rfl
  refine ⟨fd, fun s u => b s [u] rfl, fun mg base hy => ?_⟩
  obtain ⟨fdR, _, kp, bR, oR⟩ := fnR (prog := prog) (w := w) hy
  exact law_fn (G := GG K) (Pr := P_law) (p := at_law) (N := N_law) (kL := 14) (kR := 10) rfl F rfl (C8.fnScope_by (by decide +kernel)) rfl rfl (by decide) (.inl (by decide +kernel)) (by first | exact .inl (by decide +kernel) | exact .inr (by decide +kernel)) (by decide +kernel) (He.glo_ok hy.kin hy.ns (hy.says.fact 28)) kp bR oR (by decide) (fun A outer s H E hr => ds_law hy A outer s H E hr) law_ev
end
abbrev R : PySem.W.OpenRow := PySem.W.OpenLaw.row PySem.Challenge.rw_pavehall_k21_refusals_apart
def tf : List He.Defn := tabs.map (·.1)
def ex (K : PySem.W.Frag) : Bool := decide ((tabs.map fun t => (He.cT K t.1).2).Nodup) && conOk K && btOk K && undOk K
abbrev hk : PySem.W.Hook := PV.hookX2 6 fa fn [] tf ex
def ob (s : PySem.W.SharedT) : He.AlX := PV.obsX2 6 fa fn [] tf ex (HandSHeadRun.getT s)
theorem ob_eq (s : PySem.W.SharedT) : ob s = hk.obs s.abs := PV.obsX2_eq (HandSHeadRun.getT_eq s)
def loose : List Str := ["_wall", "__name__", "PaveFault", "BadSize", "BadPlan", "NoSuch", "NoRoom", "NoWay", "Sinks", "BadText", "BadDeed", "round_area", "BEARS", "bears_of", "Bed", "DEEDS", "Line", "read_line", "Book", "Desk", "closed_off", "letters_long", "Picture", "_law_dice", "_law_roll", "_law_rounds", "_law_under"]
theorem run (w : World) : HandSHeadRun.RunEq R (PySem.W.view R.prog [35]) hk ob 20000 loose w := by
  intro os
  kernel_rfl
end PV.L_k21_refusals_apart
open PySem PySem.W PySem.Calls PyProof.Rows
theorem PySem.Challenge.cw_pavehall_k21_refusals_apart_holds : PySem.Challenge.rw_pavehall_k21_refusals_apart.Holds := by
  w_on; o_law
  refine HandSHeadRun.head_any (r := OpenLaw.row PySem.Challenge.rw_pavehall_k21_refusals_apart) (q := view (OpenLaw.row PySem.Challenge.rw_pavehall_k21_refusals_apart).prog [35]) (H := PV.L_k21_refusals_apart.hk) (ob := PV.L_k21_refusals_apart.ob) (M := 20000) (loose := PV.L_k21_refusals_apart.loose) (d := HandSHeadRun.topDef (OpenLaw.row PySem.Challenge.rw_pavehall_k21_refusals_apart).prog 35) (kwd := []) PV.L_k21_refusals_apart.ob_eq
    (by kernel_rfl) (fun s => by kernel_rfl) PV.L_k21_refusals_apart.run (by kernel_rfl) (by kernel_rfl) (by kernel_rfl) (by rfl) (by first | assumption | decide +kernel) (by decide +kernel) ⟨rfl, rfl, rfl, rfl, rfl, by decide +kernel⟩ ?hw ?hc
  case hw => w_witness2
  case hc =>
    refine LamX.walk_ofTsE (l := PySem.Challenge.rw_pavehall_k21_refusals_apart) (n := 63) (k := 15) (x := "script") (CX := fun w => L2.CX (PySem.Challenge.rw_pavehall_k21_refusals_apart).prog w) rfl (by decide) (by kernel_rfl) ⟨rfl, by decide, by decide⟩ ?F (fun _ _ _ _ _ z => PV.cx_false z)
    intro w mg fa h Y G hmg0
    obtain ⟨K, KX, c⟩ := Y
    have hmg : mg ("law" : PySem.Str) = some (.ref fa) := by
      have e : (HandSHeadRun.topDef (OpenLaw.row PySem.Challenge.rw_pavehall_k21_refusals_apart).prog 35).name = ("law" : PySem.Str) := by kernel_rfl
      rw [← e]
      exact hmg0
    obtain ⟨fd, hb, hF⟩ := PV.L_k21_refusals_apart.fnL (prog := (PySem.Challenge.rw_pavehall_k21_refusals_apart).prog) (w := w) c.t.d
    exact PV.law_at (tabs := PV.L_k21_refusals_apart.tabs) (GX := PV.L_k21_refusals_apart.GG K) rfl rfl KX G hmg c (of_decide_eq_true (Bool.and_eq_true_iff.mp (Bool.and_eq_true_iff.mp (Bool.and_eq_true_iff.mp c.more).1).1).1) (c.t.d.fact 30) hb (fun base K1 N1 TB nd => hF mg base ⟨K1, N1, c.t.d, TB, nd, (Bool.and_eq_true_iff.mp (Bool.and_eq_true_iff.mp (Bool.and_eq_true_iff.mp c.more).1).1).2, (Bool.and_eq_true_iff.mp (Bool.and_eq_true_iff.mp c.more).1).2, by rfl, by rfl, (Bool.and_eq_true_iff.mp c.more).2⟩)

