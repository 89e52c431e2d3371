import Derived.Test.YteimiejbhhgljaaGreatDoorZAD
set_option linter.unusedVariables false
set_option linter.unusedSimpArgs false
section
namespace Go.AM
def isStructT (P : Program) (t : TypeId) : Bool := match P.underlying t with | some (.struct _) => true | _ => false
def arrE (P : Program) (t : TypeId) : Option (Nat × Nat × Bool) :=
  match P.underlying t with
  | some (.array n e) => match tsz P e, tagg P e with
    | some s, some ag => some (n, s, ag)
    | _, _ => none
  | _ => none
def qOut (k : Nat) (v : AVal) : Out := ⟨v, k, [], []⟩
def aIndexAddr (P : Program) (get : Nat → Option Blk) (k t : Nat) (x y : Option AVal) : Option Out :=
  match x, y with
  | some (.rd s n f), some (.lit (.int _ i)) => if esz P t = some s ∧ 0 ≤ i ∧ i < n then some ⟨.rp (f i.toNat), k, [], []⟩ else none
  | some (.sl id r n), some (.lit (.int _ i)) => match get id with
    | some B => if esz P t = some B.sz ∧ 0 ≤ i ∧ i < n then some ⟨.ptr id (r + i.toNat) 0, k, [], [id]⟩ else none
    | none => none
  | some (.rp cells), some (.lit (.int _ i)) => match arr P t with
    | some (m, s) => if 0 ≤ i ∧ i < m then some ⟨.rp (cells.drop (i.toNat * s)), k, [], []⟩ else none
    | none => none
  | some (.ptr id r c), some (.lit (.int _ i)) => match arr P t, get id with
    | some (m, s), some B => if 0 ≤ i ∧ i < m then some ⟨if B.sz = s ∧ c = 0 then .ptr id (r + i.toNat) 0 else .ptr id r (c + i.toNat * s), k, [], [id]⟩ else none
    | _, _ => none
  | _, _ => none
def aLoad (P : Program) (get : Nat → Option Blk) (k t : Nat) (x : Option AVal) : Option Out :=
  match tagg P t, tsz P t, x with
  | some ag, some n, some (.rp cells) => (rowPart ag n cells 0).map (qOut k)
  | some ag, some n, some (.ptr id r c) => match get id with
    | some B => if r = 0 ∧ c = 0 ∧ B.sz < n then (rowPart ag n B.rows.flatten 0).map fun v => ⟨v, k, [], [id]⟩ else match B.rows[r]? with
      | some row => (rowPart ag n row c).map fun v => ⟨v, k, [], [id]⟩
      | none => none
    | none => none
  | _, _, _ => none
def aStore (P : Program) (get : Nat → Option Blk) (k t : Nat) (x y : Option AVal) : Option Out :=
  match tsz P t, x, y.bind acells with
  | some n, some (.ptr id r c), some cells => match get id with
    | some B => if r = 0 ∧ c = 0 ∧ B.sz < n then (if cells.length = n ∧ cells.all one = true ∧ 0 < B.sz ∧ n = B.rows.length * B.sz then some ⟨.junk, k, [(id, some ⟨B.sz, cells.all clean, chunks B.sz B.rows.length cells⟩)], [id]⟩ else none) else match B.rows[r]? with
      | some row => if cells.length = n ∧ cells.all one = true ∧ c + n ≤ row.length then some ⟨.junk, k, [(id, some ⟨B.sz, B.pure && cells.all clean, B.rows.set r (setPart row cells c)⟩)], [id]⟩ else none
      | none => none
    | none => none
  | _, _, _ => none
def aBuild (P : Program) (k t : Nat) (parts : Option (List (Nat × AVal))) : Option Out :=
  match zcells P t, parts with
  | some cells, some vs =>
    if isStructT P t then match placesOf P t with
      | some pl => (fillA (pl[·]?) cells vs).map fun cs => qOut k (.agg cs)
      | none => none
    else match arrE P t with
      | some (_, s, _) => (fillA (fun i => some (i * s, s)) cells vs).map fun cs => qOut k (.agg cs)
      | none => none
  | _, _ => none
def aBuildSlice (P : Program) (k t len : Nat) (parts : Option (List (Nat × AVal))) : Option Out :=
  match ezero P t, parts with
  | some (s, _, zrow), some vs => match fillA (fun i => some (i * s, s)) (List.replicate len zrow).flatten vs with
    | some cells => if len * s ≤ 16777216 ∧ cells.length = len * s then some ⟨.sl k 0 len, k + 1, [(k, some ⟨s, cells.all clean, chunks s len cells⟩)], []⟩ else none
    | none => none
  | _, _ => none
def aMake (P : Program) (k t : Nat) (x y : Option AVal) : Option Out :=
  match ezero P t, x, y with
  | some (s, by', zrow), some (.lit (.int _ l)), some (.lit (.int _ c)) =>
    if 0 ≤ l ∧ l ≤ c ∧ (by' : Int) * c ≤ 281474976710656 ∧ c ≤ 9223372036854775807 then some ⟨.sl k 0 l.toNat, k + 1, [(k, some ⟨s, true, List.replicate l.toNat zrow⟩)], []⟩ else none
  | _, _, _ => none
def aSrc (get : Nat → Option Blk) : AVal → Option (Nat × Nat × List (List AVal) × Bool × List Nat)
  | .rd s m f => some (s, m, (List.range m).map f, true, [])
  | .sl id r m => match get id with
    | some B => if r + m ≤ B.rows.length then some (B.sz, m, (B.rows.drop r).take m, B.pure, [id]) else none
    | none => none
  | .lit (.slice none 0 0) => some (0, 0, [], true, [])
  | _ => none
def aAppend (P : Program) (get : Nat → Option Blk) (k t : Nat) (x y : Option AVal) : Option Out :=
  match ezero P t, x, y.bind (aSrc get) with
  | some (s, by', _), some (.lit (.slice none 0 0)), some (s', m, rows, p, ids) =>
    if m = 0 then some ⟨.lit (.slice none 0 0), k, [], ids⟩
    else if s' = s ∧ 0 < m ∧ m ≤ 9223372036854775807 ∧ m * by' ≤ 140737488355328 ∧ (rows.all fun row => row.all one) = true then some ⟨.sl k 0 m, k + 1, [(k, some ⟨s, p, rows⟩)], ids⟩ else none
  | some (s, by', _), some (.sl id 0 n), some (s', m, rows, p, ids) => match get id with
    | some B =>
      if m = 0 then some ⟨.sl id 0 n, k, [], id :: ids⟩
      else if s' = s ∧ B.sz = s ∧ B.rows.length = n ∧ id < k ∧ 0 < m ∧ n + m ≤ 9223372036854775807 ∧ (n + m) * by' ≤ 140737488355328 ∧ (rows.all fun row => row.all one) = true then
        some ⟨.sl k 0 (n + m), k + 1, [(k, some ⟨s, B.pure && p, B.rows ++ rows⟩), (id, none)], id :: ids⟩ else none
    | none => none
  | some _, some (.rd s1 n f), some (_, m, _, _, ids) => if m = 0 then some ⟨.rd s1 n f, k, [], ids⟩ else none
  | _, _, _ => none
def intBin (op : BinOp) (k : IntKind) (a b : Int) : Option Value :=
  match op with
  | .add => some (.int k (k.wrap (a + b)))
  | .sub => some (.int k (k.wrap (a - b)))
  | .mul => some (.int k (k.wrap (a * b)))
  | .quo => if b = 0 then none else some (.int k (k.wrap (a.tdiv b)))
  | .rem => if b = 0 then none else some (.int k (a.tmod b))
  | .and => some (.int k (k.wrap (BitVec.ofInt k.bits a &&& BitVec.ofInt k.bits b).toNat))
  | .or => some (.int k (k.wrap (BitVec.ofInt k.bits a ||| BitVec.ofInt k.bits b).toNat))
  | .xor => some (.int k (k.wrap (BitVec.ofInt k.bits a ^^^ BitVec.ofInt k.bits b).toNat))
  | .andNot => some (.int k (k.wrap (BitVec.ofInt k.bits a &&& ~~~(BitVec.ofInt k.bits b)).toNat))
  | .eql => some (.bool (a == b))
  | .neq => some (.bool (a != b))
  | .lss => some (.bool (decide (a < b)))
  | .leq => some (.bool (decide (a ≤ b)))
  | .gtr => some (.bool (decide (b < a)))
  | .geq => some (.bool (decide (b ≤ a)))
  | _ => none
def shBin (op : BinOp) (k : IntKind) (a b : Int) : Option Value :=
  match op with
  | .shl => if b < 0 then none else some (.int k (k.wrap (a * 2 ^ min b.toNat k.bits)))
  | .shr => if b < 0 then none else some (.int k (a.fdiv (2 ^ min b.toNat k.bits)))
  | _ => none
def strBin (op : BinOp) (x y : ByteArray) : Option Value :=
  match op with
  | .add => if ((x.size + y.size : Nat) : Int) > 9223372036854775807 then none else some (.string (x ++ y))
  | .eql => some (.bool (x.toList == y.toList))
  | .neq => some (.bool !(x.toList == y.toList))
  | .lss => some (.bool (Op.bytesLess x.toList y.toList))
  | .leq => some (.bool (Op.bytesLess x.toList y.toList || x.toList == y.toList))
  | .gtr => some (.bool !(Op.bytesLess x.toList y.toList || x.toList == y.toList))
  | .geq => some (.bool !Op.bytesLess x.toList y.toList)
  | _ => none
def isShift : BinOp → Bool
  | .shl => true
  | .shr => true
  | _ => false
def binV (P : Program) (op : BinOp) (t : TypeId) (a b : Value) : Option Value :=
  match a, b with
  | .int k x, .int k' y => if isShift op then shBin op k x y else if k = k' then intBin op k x y else none
  | .string x, .string y => strBin op x y
  | .bool x, .bool y => if tagOf P t = some 1 then (match op with | .eql => some (.bool (x == y)) | .neq => some (.bool !(x == y)) | _ => none) else none
  | .pointer none, .pointer none => if refT P t = some 0 then (match op with | .eql => some (.bool true) | .neq => some (.bool false) | _ => none) else none
  | .slice none _ _, .slice none _ _ => if refT P t = some 1 then (match op with | .eql => some (.bool true) | .neq => some (.bool false) | _ => none) else none
  | _, _ => none
def ikind (P : Program) (t : TypeId) : Option IntKind := match P.underlying t with | some (.int k) => some k | _ => none
def isStrT (P : Program) (t : TypeId) : Bool := match P.underlying t with | some .string => true | _ => false
def unV (op : UnOp) (a : Value) : Option Value :=
  match op, a with
  | .not, .bool b => some (.bool !b)
  | .neg, .int k n => some (.int k (k.wrap (0 - n)))
  | _, _ => none
def aSlice (P : Program) (ev : Operand → Option AVal) (get : Nat → Option Blk) (k t : Nat) (x : Operand) (lo hi : Option Operand) : Option Out :=
  match ev x with
  | some (.rd s n f) => match bound ev lo 0, bound ev hi n with
    | some l, some h => if esz P t = some s ∧ 0 ≤ l ∧ l ≤ h ∧ h ≤ n then some ⟨.rd s (h.toNat - l.toNat) (fun i => f (l.toNat + i)), k, [], []⟩ else none
    | _, _ => none
  | some (.sl id r n) => match get id, bound ev lo 0, bound ev hi n with
    | some B, some l, some h => if esz P t = some B.sz ∧ 0 ≤ l ∧ l ≤ h ∧ h ≤ n then some ⟨.sl id (r + l.toNat) (h.toNat - l.toNat), k, [], [id]⟩ else none
    | _, _, _ => none
  | some (.lit (.string str)) => match bound ev lo 0, bound ev hi str.size with
    | some l, some h => if isStrT P t = true ∧ 0 ≤ l ∧ l ≤ h ∧ h ≤ str.size then some (qOut k (.lit (.string (str.extract l.toNat h.toNat)))) else none
    | _, _ => none
  | some (.ptr id r c) => match get id, arr P t, lo, hi with
    | some B, some (n, s), none, none => if r = 0 ∧ c = 0 ∧ B.sz = s ∧ B.rows.length = n ∧ 0 < s ∧ n ≤ 281474976710656 then some ⟨.sl id 0 n, k, [], [id]⟩ else none
    | _, _, _, _ => none
  | _ => none
def isAggV : AVal → Bool
  | .agg _ => true
  | _ => false
def aggCells : AVal → List AVal
  | .agg cs => cs
  | _ => []
def aEq (P : Program) (get : Nat → Option Blk) (k t : Nat) (neg : Bool) (v z : AVal) : Option Out :=
  if isAggV v && isAggV z then
    match eqOffs P t, litsOf (aggCells v), litsOf (aggCells z) with
    | some offs, some xs, some ys => (eqCells xs ys offs).map fun p => qOut k (.lit (.bool (if neg then !p else p)))
    | _, _, _ => none
  else if nilLike z && notNil get v then
    if refT P t = some (kindOf v) ∧ refT P t = some (kindOf z) then some ⟨.lit (.bool neg), k, [], rdsOf v⟩ else none
  else if nilLike v && notNil get z then
    if refT P t = some (kindOf v) ∧ refT P t = some (kindOf z) then some ⟨.lit (.bool neg), k, [], rdsOf z⟩ else none
  else none
def isNeg : BinOp → Option Bool
  | .eql => some false
  | .neq => some true
  | _ => none
def moveO (k : Nat) : Option AVal → Option Out
  | some v => some (qOut k v)
  | none => none
def pickO (k : Nat) (c x y : Option AVal) : Option Out :=
  match c with
  | some (.lit (.bool t)) => moveO k (if t = true then x else y)
  | _ => none
def nilO (get : Nat → Option Blk) (k : Nat) : Option AVal → Option Out
  | some (.rp c) => some (qOut k (.rp c))
  | some (.ptr i r c) => if (get i).isSome = true then some ⟨.ptr i r c, k, [], [i]⟩ else none
  | _ => none
def fieldO (get : Nat → Option Blk) (k : Nat) (off : Option Nat) (x : Option AVal) : Option Out :=
  match off, x with
  | some off, some (.rp cells) => some (qOut k (.rp (cells.drop off)))
  | some off, some (.ptr i r c) => if (get i).isSome = true then some ⟨.ptr i r (c + off), k, [], [i]⟩ else none
  | _, _ => none
def newO (P : Program) (k t : Nat) : Option (List AVal) → Option Out
  | some cells => some ⟨.ptr k 0 0, k + 1, [(k, some (newBlk P t cells))], []⟩
  | none => none
def fieldVO (k : Nat) (fa : Option (Nat × Nat × Bool)) (x : Option AVal) : Option Out :=
  match fa, x with
  | some (off, n, ag), some (.agg cells) => moveO k (rowPart ag n cells off)
  | _, _ => none
def indexO (P : Program) (k t : Nat) (x y : Option AVal) : Option Out :=
  match x, y with
  | some (.agg cells), some (.lit (.int _ i)) => match arrE P t with
    | some (m, s, ag) => if 0 ≤ i ∧ i < m then moveO k (rowPart ag s cells (i.toNat * s)) else none
    | none => none
  | some (.lit (.string str)), some (.lit (.int _ i)) => if isStrT P t = true ∧ 0 ≤ i ∧ i < str.size then some (qOut k (.lit (.int .u8 ((str.data.toList.getD i.toNat 0).toNat)))) else none
  | _, _ => none
def extractO (k : Nat) (x : Option AVal) (i : Nat) : Option Out :=
  match x with
  | some (.tup vs) => moveO k (vs[i]?)
  | _ => none
def funO (k : Nat) (f : FuncId) : Option (List AVal) → Option Out
  | some vs => some (qOut k (.fn f vs))
  | none => none
def bfnO (k : Nat) (f : FuncId) : Option AVal → Option Out
  | some (.ptr i r c) => some (qOut k (.bfn f i r c))
  | _ => none
def lenO (P : Program) (get : Nat → Option Blk) (k t : Nat) (x : Option AVal) : Option Out :=
  match x with
  | some (.rd _ n _) => if isSliceT P t = true then some (qOut k (.lit (.int .i64 n))) else none
  | some (.sl id _ n) => if isSliceT P t = true ∧ (get id).isSome = true then some ⟨.lit (.int .i64 n), k, [], [id]⟩ else none
  | some (.lit (.string str)) => if isStrT P t = true then some (qOut k (.lit (.int .i64 str.size))) else none
  | some (.lit (.slice none 0 0)) => if isSliceT P t = true then some (qOut k (.lit (.int .i64 0))) else none
  | _ => none
def binO (P : Program) (get : Nat → Option Blk) (k : Nat) (op : BinOp) (t : TypeId) (x y : Option AVal) : Option Out :=
  match x, y with
  | some (.lit a), some (.lit b) => moveO k ((binV P op t a b).map .lit)
  | some v, some z => match isNeg op with
    | some neg => aEq P get k t neg v z
    | none => none
  | _, _ => none
def unO (k : Nat) (op : UnOp) (x : Option AVal) : Option Out :=
  match x with
  | some (.lit a) => moveO k ((unV op a).map .lit)
  | _ => none
def convO (k : Nat) (src dst : Option IntKind) (st : Bool) (x : Option AVal) : Option Out :=
  match src, dst, x with
  | some _, some k', some (.lit (.int _ n)) => some (qOut k (.lit (.int k' (k'.wrap n))))
  | some _, none, some (.lit (.int _ n)) => if st = true then some (qOut k (.lit (.string (Utf8.encode n)))) else none
  | _, _, _ => none
def maxO (k : Nat) (x y : Option AVal) : Option Out :=
  match x, y with
  | some (.lit (.int k1 a)), some (.lit (.int k2 b)) => if k1 = k2 then some (qOut k (.lit (.int k1 (if b > a then b else a)))) else none
  | _, _ => none
def minO (k : Nat) (x y : Option AVal) : Option Out :=
  match x, y with
  | some (.lit (.int k1 a)), some (.lit (.int k2 b)) => if k1 = k2 then some (qOut k (.lit (.int k1 (if b < a then b else a)))) else none
  | _, _ => none
def args1 (args : Array Operand) (f : Operand → Option Out) : Option Out :=
  match args.toList with
  | [x] => f x
  | _ => none
def args2 (args : Array Operand) (f : Operand → Operand → Option Out) : Option Out :=
  match args.toList with
  | [x, y] => f x y
  | _ => none
def aop (P : Program) (_Γ : List (Nat × List AVal)) (o : Oper) (ev : Operand → Option AVal) (get : Nat → Option Blk) (k : Nat) : Option Out :=
  match o.op with
  | .move x => moveO k (ev x)
  | .assign x => moveO k (ev x)
  | .pick c x y => pickO k (ev c) (ev x) (ev y)
  | .nilCheck x => nilO get k (ev x)
  | .fieldAddr s x f => fieldO get k (fieldOff P s f) (ev x)
  | .indexAddr t x y => aIndexAddr P get k t (ev x) (ev y)
  | .load t x => aLoad P get k t (ev x)
  | .store t x y => aStore P get k t (ev x) (ev y)
  | .alloc t => newO P k t (zcells P t)
  | .box t x => newO P k t ((ev x).bind acells)
  | .build t parts => aBuild P k t (evParts ev parts.toList)
  | .buildSlice t len parts => aBuildSlice P k t len (evParts ev parts.toList)
  | .makeSlice t x y => aMake P k t (ev x) (ev y)
  | .slice t x lo hi none => aSlice P ev get k t x lo hi
  | .field s x f => fieldVO k (fieldAt P s f) (ev x)
  | .index t x y => indexO P k t (ev x) (ev y)
  | .extract x i => extractO k (ev x) i
  | .makeFunc (.func f) first caps => if first.size = 0 then funO k f (evArgs ev caps.toList) else if caps.size = 0 then args1 first fun x => bfnO k f (ev x) else none
  | .call { callee := .builtin .len, args := args, argTypes := ty } => if ty.size = 0 then none else args1 args fun x => lenO P get k (ty.toList.headD 0) (ev x)
  | .call { callee := .builtin .append, args := args, argTypes := ty } => args2 args fun x y => if ty.toList = [ty.toList.headD 0, ty.toList.headD 0] then aAppend P get k (ty.toList.headD 0) (ev x) (ev y) else none
  | .call { callee := .builtin .max, args := args, argTypes := _ } => args2 args fun x y => maxO k (ev x) (ev y)
  | .call { callee := .builtin .min, args := args, argTypes := _ } => args2 args fun x y => minO k (ev x) (ev y)
  | .binOp op t x y _ => binO P get k op t (ev x) (ev y)
  | .unOp op _ x => unO k op (ev x)
  | .convert src dst x => convO k (ikind P src) (ikind P dst) (isStrT P dst) (ev x)
  | _ => none
section
variable {P : Program} {Γ : List (Nat × List AVal)} {o : Oper} {ev : Operand → Option AVal} {get : Nat → Option Blk} {k : Nat}
theorem Good.quiet {v : AVal} (h : OpOk P Γ o ev get k ⟨v, k, [], []⟩) : Good P Γ o ev get k (qOut k v) := ⟨h, fun id hid => by simp [qOut] at hid, Nat.le_refl _⟩
theorem arrE_spec {t n s : Nat} {ag : Bool} (h : arrE P t = some (n, s, ag)) : ∃ e, P.underlying t = some (.array n e) ∧ tsz P e = some s ∧ tagg P e = some ag := by
  unfold arrE at h
  split at h
  · rename_i m e hu
    split at h
    · rename_i s' ag' h1 h2; cases h; exact ⟨e, hu, h1, h2⟩
    · cases h
  · cases h
theorem aIndexAddr_good {t : Nat} {x y : Operand} {out : Out} (ho : o.op = .indexAddr t x y) (h : aIndexAddr P get k t (ev x) (ev y) = some out) : Good P Γ o ev get k out := by
  unfold aIndexAddr at h
  split at h
  · rename_i s n f kk i hx hy
    split at h
    · rename_i hc; cases h; exact ⟨index_rd_ok ho hc.1 hx hy hc.2.1 hc.2.2, fun id hid => by simp at hid, Nat.le_refl _⟩
    · cases h
  · rename_i id r n kk i hx hy
    split at h
    · rename_i B hB
      split at h
      · rename_i hc; cases h; exact ⟨index_sl_ok ho hc.1 hx hy hB rfl hc.2.1 hc.2.2, fun id' hid => by simp at hid; rw [hid, hB]; rfl, Nat.le_refl _⟩
      · cases h
    · cases h
  · rename_i cells kk i hx hy
    split at h
    · rename_i m s ha
      split at h
      · rename_i hc; cases h; exact ⟨index_rp_ok ho ha hx hy hc.1 hc.2, fun id hid => by simp at hid, Nat.le_refl _⟩
      · cases h
    · cases h
  · rename_i id r c kk i hx hy
    split at h
    · rename_i m s B ha hB
      split at h
      · rename_i hc; cases h; exact ⟨index_ptr_ok ho ha hx hy hB hc.1 hc.2, fun id' hid => by simp at hid; rw [hid, hB]; rfl, Nat.le_refl _⟩
      · cases h
    · cases h
  · cases h
theorem aLoad_good {t : Nat} {x : Operand} {out : Out} (ho : o.op = .load t x) (h : aLoad P get k t (ev x) = some out) : Good P Γ o ev get k out := by
  unfold aLoad at h
  split at h
  · rename_i ag n cells h1 h2 hx
    simp only [Option.map_eq_some_iff] at h
    obtain ⟨v, hv, rfl⟩ := h
    exact .quiet (load_rp_ok ho h1 h2 hx hv)
  · rename_i ag n id r c h1 h2 hx
    split at h
    · rename_i B hB
      split at h
      · rename_i hc
        obtain ⟨rfl, rfl, _⟩ := hc
        simp only [Option.map_eq_some_iff] at h
        obtain ⟨v, hv, rfl⟩ := h
        exact ⟨load_all_ok ho h1 h2 hx hB hv, fun id' hid => by simp at hid; rw [hid, hB]; rfl, Nat.le_refl _⟩
      split at h
      · rename_i row hrow
        simp only [Option.map_eq_some_iff] at h
        obtain ⟨v, hv, rfl⟩ := h
        exact ⟨load_ptr_ok ho h1 h2 hx hB hrow hv, fun id' hid => by simp at hid; rw [hid, hB]; rfl, Nat.le_refl _⟩
      · cases h
    · cases h
  · cases h
theorem aStore_good {t : Nat} {x y : Operand} {out : Out} (ho : o.op = .store t x y) (h : aStore P get k t (ev x) (ev y) = some out) : Good P Γ o ev get k out := by
  unfold aStore at h
  split at h
  · rename_i n id r c cells h1 hx hy
    obtain ⟨v, hv, hc⟩ := Option.bind_eq_some_iff.1 hy
    split at h
    · rename_i B hB
      split at h
      · rename_i hz
        obtain ⟨rfl, rfl, _⟩ := hz
        split at h
        · rename_i hcond; cases h
          exact ⟨store_all_ok ho h1 hx hv hc hcond.1 hcond.2.1 hB hcond.2.2.1 hcond.2.2.2, fun id' hid => by simp at hid; rw [hid, hB]; rfl, Nat.le_refl _⟩
        · cases h
      split at h
      · rename_i row hrow
        split at h
        · rename_i hcond; cases h
          exact ⟨store_ok ho h1 hx hv hc hcond.1 hcond.2.1 hB hrow hcond.2.2, fun id' hid => by simp at hid; rw [hid, hB]; rfl, Nat.le_refl _⟩
        · cases h
      · cases h
    · cases h
  · cases h
theorem aBuild_good {t : Nat} {parts : Array (Nat × Operand)} {out : Out} (ho : o.op = .build t parts) (h : aBuild P k t (evParts ev parts.toList) = some out) : Good P Γ o ev get k out := by
  unfold aBuild at h
  split at h
  · rename_i cells vs h1 h2
    split at h
    · rename_i hs
      split at h
      · rename_i pl hpl
        simp only [Option.map_eq_some_iff] at h
        obtain ⟨cs, hc, rfl⟩ := h
        refine .quiet (build_ok ho h1 hpl ?_ h2 hc)
        unfold isStructT at hs
        split at hs
        · exact ⟨_, ‹_›⟩
        · cases hs
      · cases h
    · split at h
      · rename_i n s ag ha
        simp only [Option.map_eq_some_iff] at h
        obtain ⟨cs, hc, rfl⟩ := h
        obtain ⟨e, hu, hs, _⟩ := arrE_spec ha
        exact .quiet (build_arr_ok ho h1 hu hs h2 hc)
      · cases h
  · cases h
theorem aBuildSlice_good {t len : Nat} {parts : Array (Nat × Operand)} {out : Out} (ho : o.op = .buildSlice t len parts) (h : aBuildSlice P k t len (evParts ev parts.toList) = some out) : Good P Γ o ev get k out := by
  unfold aBuildSlice at h
  split at h
  · rename_i s by' zrow vs h1 h2
    split at h
    · rename_i cells hc
      split at h
      · rename_i hcond; cases h
        exact ⟨buildSlice_ok ho h1 hcond.1 h2 hc hcond.2, fun id hid => by simp at hid, Nat.le_succ _⟩
      · cases h
    · cases h
  · cases h
theorem aMake_good {t : Nat} {x y : Operand} {out : Out} (ho : o.op = .makeSlice t x y) (h : aMake P k t (ev x) (ev y) = some out) : Good P Γ o ev get k out := by
  unfold aMake at h
  split at h
  · rename_i s by' zrow kl l kc c h1 hx hy
    split at h
    · rename_i hc; cases h
      exact ⟨make_ok ho h1 hx hy hc.1 hc.2.1 hc.2.2.1 hc.2.2.2, fun id hid => by simp at hid, Nat.le_succ _⟩
    · cases h
  · cases h
theorem aSrc_spec {v : AVal} {s m : Nat} {rows : List (List AVal)} {p : Bool} {ids : List Nat} (h : aSrc get v = some (s, m, rows, p, ids)) : SrcA get v s m rows p ids ∧ ∀ id, id ∈ ids → (get id).isSome = true := by
  unfold aSrc at h
  split at h
  · cases h; exact ⟨.rd, fun id hid => by simp at hid⟩
  · split at h
    · rename_i B hB
      split at h
      · rename_i hle; cases h; exact ⟨.sl hB hle, fun id hid => by simp at hid; rw [hid, hB]; rfl⟩
      · cases h
    · cases h
  · cases h; exact ⟨.nil, fun id hid => by simp at hid⟩
  · cases h
theorem aAppend_good {t : Nat} {x y : Operand} {out : Out} (ho : o.op = .call { callee := .builtin .append, args := #[x, y], argTypes := #[t, t] }) (h : aAppend P get k t (ev x) (ev y) = some out) : Good P Γ o ev get k out := by
  unfold aAppend at h
  split at h
  · rename_i s by' z s' m rows p ids h1 hx hy
    obtain ⟨v, hv, hs⟩ := Option.bind_eq_some_iff.1 hy
    obtain ⟨hsrc, hpres⟩ := aSrc_spec hs
    split at h
    · rename_i hm; subst hm; cases h
      exact ⟨append0_ok (idx := []) ho h1 hx hv (.inl ⟨rfl, rfl⟩) hsrc, hpres, Nat.le_refl _⟩
    split at h
    · rename_i hc; cases h
      obtain ⟨rfl, c2, c3, c4, c5⟩ := hc
      exact ⟨append_nil_ok ho h1 hx hv hsrc c2 c3 c4 c5, hpres, Nat.le_succ _⟩
    · cases h
  · rename_i s by' z id n s' m rows p ids h1 hx hy
    obtain ⟨v, hv, hs⟩ := Option.bind_eq_some_iff.1 hy
    obtain ⟨hsrc, hpres⟩ := aSrc_spec hs
    split at h
    · rename_i B hB
      split at h
      · rename_i hm; subst hm; cases h
        exact ⟨append0_ok (idx := [id]) ho h1 hx hv (.inr (.inr ⟨id, 0, n, rfl, rfl, by rw [hB]; rfl⟩)) hsrc, fun id' hid => by
          rcases List.mem_cons.1 hid with h | h
          · rw [h, hB]; rfl
          · exact hpres id' h, Nat.le_refl _⟩
      split at h
      · rename_i hc; cases h
        obtain ⟨rfl, c2, c3, c4, c5, c6, c7, c8⟩ := hc
        exact ⟨append_sl_ok ho h1 hx hB c2 c3 c4 hv hsrc c5 c6 c7 c8, fun id' hid => by
          rcases List.mem_cons.1 hid with h | h
          · rw [h, hB]; rfl
          · exact hpres id' h, Nat.le_succ _⟩
      · cases h
    · cases h
  · rename_i xx s1 n f s' m rows p ids h1 hx hy
    obtain ⟨s, by', z⟩ := xx
    obtain ⟨v, hv, hs⟩ := Option.bind_eq_some_iff.1 hy
    obtain ⟨hsrc, hpres⟩ := aSrc_spec hs
    split at h
    · rename_i hm; subst hm; cases h
      exact ⟨append0_ok (idx := []) ho h1 hx hv (.inr (.inl ⟨s1, n, f, rfl, rfl⟩)) hsrc, hpres, Nat.le_refl _⟩
    · cases h
  · cases h
theorem isStrT_spec {t : Nat} (h : isStrT P t = true) : P.underlying t = some .string := by
  unfold isStrT at h
  split at h
  · assumption
  · cases h
theorem slice_str_ok {t : Nat} {x : Operand} {lo hi : Option Operand} {str : ByteArray} {l h : Int} (ho : o.op = .slice t x lo hi none) (ht : isStrT P t = true) (hx : ev x = some (.lit (.string str))) (hl : bound ev lo 0 = some l) (hh : bound ev hi str.size = some h)
    (h0 : 0 ≤ l) (h1 : l ≤ h) (h2 : h ≤ str.size) : OpOk P Γ o ev get k ⟨.lit (.string (str.extract l.toNat h.toNat)), k, [], []⟩ := by
  refine OpOk_quiet fun w G ρ H A a hr _ hop => ⟨.string (str.extract l.toNat h.toNat), ?_, .lit⟩
  have ex : a.eval x = .string str := V_bool (hop x (by simp [ho, Op.operands]) _ hx)
  have el := bound_spec (w := w) (G := G) (ρ := ρ) (A := A) (a := a) hl (fun y hy v hv => hop y (by simp [ho, Op.operands, hy]) v hv)
  have eh := bound_spec (w := w) (G := G) (ρ := ρ) (A := A) (a := a) hh (fun y hy v hv => hop y (by simp [ho, Op.operands, hy]) v hv)
  have hu := isStrT_spec ht
  have hb : (Instr.sliceBounds false str.size str.size (lo.map a.eval) (hi.map a.eval) none).run P w = .ok (l.toNat, h.toNat, str.size) w := by
    have q1 : (0 : Int) ≤ h ∧ h ≤ (str.size : Int) := ⟨by omega, by omega⟩
    have q3 : (0 : Int) ≤ l ∧ l ≤ (h.toNat : Int) := ⟨h0, by omega⟩
    rcases el with ⟨e1, rfl⟩ | ⟨kl, e1⟩ <;> rcases eh with ⟨e2, rfl⟩ | ⟨kh, e2⟩ <;> rw [e1, e2]
    · simp [Instr.sliceBounds]
    · simp [Instr.sliceBounds, Instr.sliceBound, asIntOf, q1]
    · have q2 : (0 : Int) ≤ l ∧ l ≤ (str.size : Int) := ⟨h0, h1⟩
      simp [Instr.sliceBounds, Instr.sliceBound, asIntOf, q2]
    · simp only [Instr.sliceBounds, Instr.sliceBound, asIntOf, Sem.run_bind, Sem.run_pure, Result.andThen_ok, q1, and_self, if_true, q3]
  simp only [execOp, ho, ex, Option.map_none, Instr.sliceAt, underlying, Sem.run_bind, run_program, Result.andThen_ok, hu, Sem.run_pure, Instr.slice]
  simp [hb]
theorem rows_fit {w : World} {G : Nat → Prop} {ρ : Names} {A : Allow} {B : Blk} {C : Array Value} (hrows : ∀ r row c v, B.rows[r]? = some row → row[c]? = some v → ∃ cv, C[r * B.sz + c]? = some cv ∧ V w G ρ A v cv)
    (hlen : ∀ (r : Nat) row, B.rows[r]? = some row → row.length = B.sz) : B.rows.length * B.sz ≤ C.size := by
  by_cases h0 : B.rows.length * B.sz = 0
  · omega
  · have hr : 0 < B.rows.length := Nat.pos_of_ne_zero fun e => h0 (by rw [e]; simp)
    have hs : 0 < B.sz := Nat.pos_of_ne_zero fun e => h0 (by rw [e]; simp)
    obtain ⟨row, v, h1, h2⟩ := row_get (s := B.sz) (r := B.rows.length - 1) (c := B.sz - 1) hlen (by omega) (by omega)
    obtain ⟨cu, h3, _⟩ := hrows _ row _ v h1 h2
    have h4 := (Array.getElem?_eq_some_iff.1 h3).1
    have : B.rows.length * B.sz = (B.rows.length - 1) * B.sz + B.sz := by
      have e1 : B.rows.length = (B.rows.length - 1) + 1 := by omega
      rw [e1, Nat.add_mul]; simp
    omega
theorem slice_arr_ok {t n s id : Nat} {x : Operand} {B : Blk} (ho : o.op = .slice t x none none none) (ha : arr P t = some (n, s)) (hx : ev x = some (.ptr id 0 0)) (hB : get id = some B) (hs : B.sz = s) (hn : B.rows.length = n)
    (hm : n ≤ 281474976710656) : OpOk P Γ o ev get k ⟨.sl id 0 n, k, [], [id]⟩ := by
  refine OpOk_quiet fun w G ρ H A a hr hrd hop => ?_
  have hvx := hop x (by simp [ho, Op.operands]) _ hx
  obtain ⟨B', A', h3, hH, _⟩ := hrd id (by simp)
  rw [hB] at h3; cases h3
  obtain ⟨_, b, hb, _, hBR⟩ := hr.blk id B A' hH
  obtain ⟨e, i, hu, hi, hsz⟩ := arr_spec ha
  generalize hev : a.eval x = cv at hvx
  cases hvx with
  | dang _ hn' => rw [hb] at hn'; cases hn'
  | ptr ha' hρ hsh =>
    rw [hb] at hρ; cases hρ
    obtain ⟨⟨C, ty, hC, hrows⟩, hlen⟩ := hBR.old hsh
    have hfit := rows_fit hrows hlen
    refine ⟨.slice (some ⟨b, 0, none⟩) n n, ?_, .sl ha' hb (w := w) (ty := ty) (m := C.size) (by unfold World.shape?; rw [hC]) (by rw [Nat.zero_add, ← hn]; exact hfit) (Nat.le_refl _) (by unfold maxLen; omega) (.inr (by simp))⟩
    simp only [execOp, ho, hev, Option.map_none, Instr.sliceAt, underlying, Sem.run_bind, run_program, Result.andThen_ok, hu, Sem.run_pure, Instr.sureAddr, Instr.sliceBounds, sizeOf, typeInfo, hi]
    by_cases hn0 : n = 0
    · subst hn0; simp
    · simp [hn0, Addr.add]
theorem aSlice_good {t : Nat} {x : Operand} {lo hi : Option Operand} {out : Out} (ho : o.op = .slice t x lo hi none) (h : aSlice P ev get k t x lo hi = some out) : Good P Γ o ev get k out := by
  unfold aSlice at h
  split at h
  · rename_i s n f hx
    split at h
    · rename_i l hh h1 h2
      split at h
      · rename_i hc; cases h; exact ⟨slice_rd_ok ho hc.1 hx h1 h2 hc.2.1 hc.2.2.1 hc.2.2.2, fun id hid => by simp at hid, Nat.le_refl _⟩
      · cases h
    · cases h
  · rename_i id r n hx
    split at h
    · rename_i B l hh hB h1 h2
      split at h
      · rename_i hc; cases h; exact ⟨slice_sl_ok ho hc.1 hx hB rfl h1 h2 hc.2.1 hc.2.2.1 hc.2.2.2, fun id' hid => by simp at hid; rw [hid, hB]; rfl, Nat.le_refl _⟩
      · cases h
    · cases h
  · rename_i str hx
    split at h
    · rename_i l hh h1 h2
      split at h
      · rename_i hc; cases h; exact .quiet (slice_str_ok ho hc.1 hx h1 h2 hc.2.1 hc.2.2.1 hc.2.2.2)
      · cases h
    · cases h
  · rename_i id r c hx
    split at h
    · rename_i B n s hB ha
      split at h
      · rename_i hc
        obtain ⟨rfl, rfl, h1, h2, h3, h4⟩ := hc
        cases h
        exact ⟨slice_arr_ok ho ha hx hB h1 h2 h4, fun id' hid => by simp at hid; rw [hid, hB]; rfl, Nat.le_refl _⟩
      · cases h
    · cases h
  · cases h
theorem rdsOf_some {v : AVal} (h : notNil get v = true) : ∀ id, id ∈ rdsOf v → (get id).isSome = true := fun id hid => by
  cases v <;> simp [rdsOf] at hid
  · subst hid; exact h
  · subst hid; simp only [notNil, Bool.and_eq_true] at h; exact h.1
theorem aEq_good {op : BinOp} {t ty : Nat} {x y : Operand} {v z : AVal} {neg : Bool} {out : Out} (ho : o.op = .binOp op t x y ty) (hneg : isNeg op = some neg) (hx : ev x = some v) (hy : ev y = some z) (h : aEq P get k t neg v z = some out) : Good P Γ o ev get k out := by
  have ho' : o.op = .binOp (if neg then .neq else .eql) t x y ty := by
    cases op <;> simp [isNeg] at hneg
    · subst hneg; exact ho
    · subst hneg; exact ho
  unfold aEq at h
  split at h
  · rename_i hagg
    split at h
    · rename_i offs xs ys h1 h2 h3
      simp only [Option.map_eq_some_iff] at h
      obtain ⟨p, hp, rfl⟩ := h
      cases v with
      | agg xc =>
        cases z with
        | agg yc => exact .quiet (eqagg_ok ho' h1 hx hy h2 h3 hp)
        | _ => simp [isAggV] at hagg
      | _ => simp [isAggV] at hagg
    · cases h
  · split at h
    · rename_i hc
      simp only [Bool.and_eq_true] at hc
      split at h
      · rename_i hk; cases h
        exact ⟨eqnil_ok ho' hk.1 (.inl ⟨hx, hy⟩) hc.2 hc.1 rfl (by rw [hk.2] at hk; exact (Option.some.inj hk.1)), rdsOf_some hc.2, Nat.le_refl _⟩
      · cases h
    · split at h
      · rename_i hc
        simp only [Bool.and_eq_true] at hc
        split at h
        · rename_i hk; cases h
          exact ⟨eqnil_ok ho' hk.2 (.inr ⟨hx, hy⟩) hc.2 hc.1 rfl (by rw [hk.1] at hk; exact (Option.some.inj hk.2)), rdsOf_some hc.2, Nat.le_refl _⟩
        · cases h
      · cases h
theorem equalIn_bool {t : Nat} (ht : tagOf P t = some 1) (d : Nat) (x y : Bool) (w : World) : (Op.equalIn (d + 1) t (.bool x) (.bool y)).run P w = .ok (x == y) w :=
  eqLit_run ht (by simp [eqLit]) w
theorem binV_run {op : BinOp} {t : Nat} {a b v : Value} (h : binV P op t a b = some v) (xo yo : Operand) (w : World) : (do eqGuard op t xo yo a b; binOp op t a b : Sem Value).run P w = .ok v w := by
  unfold binV at h
  split at h
  · rename_i k x k' y
    have hg : (eqGuard op t xo yo (.int k x) (.int k' y)).run P w = .ok () w := eqGuard_idle (by simp) (by simp) op xo yo w
    rw [Sem.run_bind, hg, Result.andThen_ok]
    split at h
    · cases op <;> simp [isShift] at *
      · simp only [shBin] at h
        split at h
        · cases h
        · rename_i hlt; cases h; simp [binOp, Op.shift, hlt]
      · simp only [shBin] at h
        split at h
        · cases h
        · rename_i hlt; cases h; simp [binOp, Op.shift, hlt]
    · split at h
      · rename_i hns he
        subst he
        cases op <;> simp only [intBin, isShift, Bool.true_eq_false, not_true_eq_false] at h hns <;> first
          | (cases h; simp [binOp, Op.intArith, Op.intBits, Op.intCmp]; done)
          | (split at h; · cases h
             · rename_i hz; cases h; simp [binOp, Op.intDiv, hz])
          | cases h
      · cases h
  · rename_i x y
    have hg : (eqGuard op t xo yo (.string x) (.string y)).run P w = .ok () w := eqGuard_idle (by simp) (by simp) op xo yo w
    rw [Sem.run_bind, hg, Result.andThen_ok]
    cases op <;> simp only [strBin] at h <;> first
      | (split at h; · cases h
         · rename_i hz; cases h
           have hz' : ¬ (((x.size + y.size : Nat) : Int) > IntKind.i64.max) := hz
           simp only [binOp, Op.stringOp, if_neg hz']; rfl)
      | (cases h; simp [binOp, Op.stringOp]; done)
      | cases h
  · rename_i x y
    have hg : (eqGuard op t xo yo (.bool x) (.bool y)).run P w = .ok () w := eqGuard_idle (by simp) (by simp) op xo yo w
    rw [Sem.run_bind, hg, Result.andThen_ok]
    split at h
    · rename_i ht
      have he : (Op.equal t (.bool x) (.bool y)).run P w = .ok (x == y) w := equalIn_bool ht 9999 x y w
      have := eql_of (P := P) (t := t) (x := .bool x) (y := .bool y) (w := w) (by simp) he
      split at h
      · cases h; exact this.1
      · cases h; exact this.2
      · cases h
    · cases h
  · have hg : (eqGuard op t xo yo (.pointer none) (.pointer none)).run P w = .ok () w := eqGuard_idle (by simp) (by simp) op xo yo w
    rw [Sem.run_bind, hg, Result.andThen_ok]
    split at h
    · rename_i ht
      unfold refT at ht
      split at ht <;> cases ht
      rename_i e hu
      have he : (Op.equal t (.pointer none) (.pointer none)).run P w = .ok true w := equalIn_ptr0 hu 9999 w
      cases op <;> simp only [] at h <;> first
        | (cases h; simp [binOp, he]; done)
        | cases h
    · cases h
  · rename_i m c m' c'
    have hg : (eqGuard op t xo yo (.slice none m c) (.slice none m' c')).run P w = .ok () w := eqGuard_idle (by simp) (by simp) op xo yo w
    rw [Sem.run_bind, hg, Result.andThen_ok]
    split at h
    · rename_i ht
      unfold refT at ht
      split at ht <;> cases ht
      rename_i e hu
      have he : (Op.equal t (.slice none m c) (.slice none m' c')).run P w = .ok true w := equalIn_sl0 hu 9999 m c m' c' w
      cases op <;> simp only [] at h <;> first
        | (cases h; simp [binOp, he]; done)
        | cases h
    · cases h
  · cases h
theorem binV_ok {op : BinOp} {t ty : Nat} {x y : Operand} {a b v : Value} (ho : o.op = .binOp op t x y ty) (hx : ev x = some (.lit a)) (hy : ev y = some (.lit b)) (h : binV P op t a b = some v) : OpOk P Γ o ev get k ⟨.lit v, k, [], []⟩ := by
  refine OpOk_quiet fun w G ρ H A act hr _ hop => ⟨v, ?_, .lit⟩
  have ex : act.eval x = a := V_bool (hop x (by simp [ho, Op.operands]) _ hx)
  have ey : act.eval y = b := V_bool (hop y (by simp [ho, Op.operands]) _ hy)
  have := binV_run (P := P) h x y w
  simp only [execOp, ho, ex, ey]
  rw [Sem.run_bind] at this ⊢
  rw [Sem.run_bind, this]; rfl
theorem unV_ok {op : UnOp} {t : Nat} {x : Operand} {a v : Value} (ho : o.op = .unOp op t x) (hx : ev x = some (.lit a)) (h : unV op a = some v) : OpOk P Γ o ev get k ⟨.lit v, k, [], []⟩ := by
  refine OpOk_quiet fun w G ρ H A act hr _ hop => ⟨v, ?_, .lit⟩
  have ex : act.eval x = a := V_bool (hop x (by simp [ho, Op.operands]) _ hx)
  unfold unV at h
  split at h
  · cases h; simp [execOp, ho, ex, Op.unary]
  · cases h; simp [execOp, ho, ex, Op.unary, Op.intArith]
  · cases h
theorem ikind_spec {t : Nat} {kk : IntKind} (h : ikind P t = some kk) : P.underlying t = some (.int kk) := by
  unfold ikind at h
  split at h
  · cases h; assumption
  · cases h
theorem conv_ok {src dst : Nat} {x : Operand} {k1 k2 kk : IntKind} {n : Int} (ho : o.op = .convert src dst x) (hx : ev x = some (.lit (.int k1 n))) (h1 : ikind P src = some k2) (h2 : ikind P dst = some kk) : OpOk P Γ o ev get k ⟨.lit (.int kk (kk.wrap n)), k, [], []⟩ := by
  refine OpOk_quiet fun w G ρ H A act hr _ hop => ⟨.int kk (kk.wrap n), ?_, .lit⟩
  have ex : act.eval x = .int k1 n := V_bool (hop x (by simp [ho, Op.operands]) _ hx)
  simp [execOp, ho, ex, convert, run_underlying (ikind_spec h1), run_underlying (ikind_spec h2), Conv.intToInt]
theorem convStr_ok {src dst : Nat} {x : Operand} {k1 k2 : IntKind} {n : Int} (ho : o.op = .convert src dst x) (hx : ev x = some (.lit (.int k1 n))) (h1 : ikind P src = some k2) (h2 : isStrT P dst = true) : OpOk P Γ o ev get k ⟨.lit (.string (Utf8.encode n)), k, [], []⟩ := by
  refine OpOk_quiet fun w G ρ H A act hr _ hop => ⟨.string (Utf8.encode n), ?_, .lit⟩
  have ex : act.eval x = .int k1 n := V_bool (hop x (by simp [ho, Op.operands]) _ hx)
  simp [execOp, ho, ex, convert, run_underlying (ikind_spec h1), run_underlying (isStrT_spec h2), Conv.intToString]
theorem lenStr_ok {t : Nat} {x : Operand} {str : ByteArray} {ty : Array TypeId} (ho : o.op = .call { callee := .builtin .len, args := #[x], argTypes := ty }) (hty : ty[0]? = some t) (ht : isStrT P t = true) (hx : ev x = some (.lit (.string str))) : OpOk P Γ o ev get k ⟨.lit (.int .i64 str.size), k, [], []⟩ := by
  refine OpOk_quiet fun w G ρ H A act hr _ hop => ⟨.int .i64 str.size, ?_, .lit⟩
  have ex : act.eval x = .string str := V_bool (hop x (by simp [ho, Op.operands, Call.operands]) _ hx)
  simp [execOp, ho, resolve, invoke, builtin, Builtin.len_, hty, ex, run_underlying (isStrT_spec ht), goInt]
theorem idxStr_ok {t : Nat} {x y : Operand} {str : ByteArray} {kk : IntKind} {i : Int} (ho : o.op = .index t x y) (ht : isStrT P t = true) (hx : ev x = some (.lit (.string str))) (hy : ev y = some (.lit (.int kk i))) (h0 : 0 ≤ i) (h1 : i < str.size) :
    OpOk P Γ o ev get k ⟨.lit (.int .u8 ((str.data.toList.getD i.toNat 0).toNat)), k, [], []⟩ := by
  refine OpOk_quiet fun w G ρ H A act hr _ hop => ⟨_, ?_, .lit⟩
  have ex : act.eval x = .string str := V_bool (hop x (by simp [ho, Op.operands]) _ hx)
  have ey : act.eval y = .int kk i := V_bool (hop y (by simp [ho, Op.operands]) _ hy)
  have hlt : i.toNat < str.size := by omega
  have hg : str[i.toNat]? = some (str.data.toList.getD i.toNat 0) := by
    rw [getElem?_pos str i.toNat hlt]
    congr 1
    rw [List.getD_eq_getElem?_getD, List.getElem?_eq_getElem (by simpa using hlt)]
    rfl
  simp only [execOp, ho, ex, ey, Instr.index, asIntOf, Sem.run_bind, Sem.run_pure, Result.andThen_ok, run_underlying (isStrT_spec ht), if_pos h0, hg]
theorem moveO_some {x : Option AVal} {out : Out} (h : moveO k x = some out) : ∃ v, x = some v ∧ out = qOut k v := by
  cases x with
  | none => cases h
  | some v => cases h; exact ⟨v, rfl, rfl⟩
theorem maxmin_ok {x y : Operand} {ty : Array TypeId} {kk : IntKind} {a b : Int} {mx : Bool} (ho : o.op = .call { callee := .builtin (if mx then .max else .min), args := #[x, y], argTypes := ty }) (hx : ev x = some (.lit (.int kk a))) (hy : ev y = some (.lit (.int kk b))) :
    OpOk P Γ o ev get k ⟨.lit (.int kk (if mx then (if b > a then b else a) else (if b < a then b else a))), k, [], []⟩ := by
  refine OpOk_quiet fun w G ρ H A act hr _ hop => ⟨_, ?_, .lit⟩
  have ex : act.eval x = .int kk a := V_bool (hop x (by cases mx <;> simp [ho, Op.operands, Call.operands]) _ hx)
  have ey : act.eval y = .int kk b := V_bool (hop y (by cases mx <;> simp [ho, Op.operands, Call.operands]) _ hy)
  cases mx
  · simp [execOp, ho, resolve, invoke, builtin, ex, ey, Builtin.min_, Builtin.min2]
  · simp [execOp, ho, resolve, invoke, builtin, ex, ey, Builtin.max_, Builtin.max2]
theorem lenNil_ok {t : Nat} {x : Operand} {ty : Array TypeId} (ho : o.op = .call { callee := .builtin .len, args := #[x], argTypes := ty }) (hty : ty[0]? = some t) (ht : isSliceT P t = true) (hx : ev x = some (.lit (.slice none 0 0))) : OpOk P Γ o ev get k ⟨.lit (.int .i64 0), k, [], []⟩ := by
  refine OpOk_quiet fun w G ρ H A act hr _ hop => ⟨.int .i64 0, ?_, .lit⟩
  have ex : act.eval x = .slice none 0 0 := V_bool (hop x (by simp [ho, Op.operands, Call.operands]) _ hx)
  unfold isSliceT at ht
  split at ht
  · rename_i e hu
    simp [execOp, ho, resolve, invoke, builtin, Builtin.len_, hty, ex, run_underlying hu, goInt]
  · cases ht
theorem args1_some {args : Array Operand} {f : Operand → Option Out} {out : Out} (h : args1 args f = some out) : ∃ x, args = #[x] ∧ f x = some out := by
  unfold args1 at h
  split at h
  · rename_i x ha; exact ⟨x, by rw [← Array.toArray_toList (xs := args), ha], h⟩
  · cases h
theorem args2_some {args : Array Operand} {f : Operand → Operand → Option Out} {out : Out} (h : args2 args f = some out) : ∃ x y, args = #[x, y] ∧ f x y = some out := by
  unfold args2 at h
  split at h
  · rename_i x y ha; exact ⟨x, y, by rw [← Array.toArray_toList (xs := args), ha], h⟩
  · cases h
theorem aop_good {out : Out} (h : aop P Γ o ev get k = some out) : Good P Γ o ev get k out := by
  unfold aop at h
  split at h
  · rename_i x ho
    obtain ⟨v, hv, rfl⟩ := moveO_some h
    exact .quiet (move_ok (.inl ho) hv)
  · rename_i x ho
    obtain ⟨v, hv, rfl⟩ := moveO_some h
    exact .quiet (move_ok (.inr ho) hv)
  · rename_i c x y ho
    unfold pickO at h
    split at h
    · rename_i t hc
      obtain ⟨v, hv, rfl⟩ := moveO_some h
      exact .quiet (pick_ok ho hc hv)
    · cases h
  · rename_i x ho
    unfold nilO at h
    split at h
    · rename_i c hx; cases h; exact .quiet (nilCheck_ok ho hx (.inl ⟨c, rfl⟩))
    · rename_i i r c hx
      split at h
      · rename_i hi; cases h; exact ⟨nilCheck_ok ho hx (.inr ⟨i, r, c, rfl, hi⟩), fun id hid => by simp at hid; rw [hid]; exact hi, Nat.le_refl _⟩
      · cases h
    · cases h
  · rename_i s x f ho
    unfold fieldO at h
    split at h
    · rename_i off cells h1 hx; cases h; exact .quiet (fieldAddr_ok ho h1 (.inl ⟨cells, hx, rfl⟩))
    · rename_i off i r c h1 hx
      split at h
      · rename_i hi; cases h; exact ⟨fieldAddr_ok ho h1 (.inr ⟨i, r, c, hx, hi, rfl⟩), fun id hid => by simp at hid; rw [hid]; exact hi, Nat.le_refl _⟩
      · cases h
    · cases h
  · rename_i t x y ho; exact aIndexAddr_good ho h
  · rename_i t x ho; exact aLoad_good ho h
  · rename_i t x y ho; exact aStore_good ho h
  · rename_i t ho
    unfold newO at h
    split at h
    · rename_i cells hz; cases h; exact ⟨alloc_ok ho hz, fun id hid => by simp at hid, Nat.le_succ _⟩
    · cases h
  · rename_i t x ho
    unfold newO at h
    split at h
    · rename_i cells hz; cases h
      obtain ⟨v, hv, hc⟩ := Option.bind_eq_some_iff.1 hz
      exact ⟨box_ok ho hv hc, fun id hid => by simp at hid, Nat.le_succ _⟩
    · cases h
  · rename_i t parts ho; exact aBuild_good ho h
  · rename_i t len parts ho; exact aBuildSlice_good ho h
  · rename_i t x y ho; exact aMake_good ho h
  · rename_i t x lo hi ho; exact aSlice_good ho h
  · rename_i s x f ho
    unfold fieldVO at h
    split at h
    · rename_i off n ag cells h1 hx
      obtain ⟨v, hv, rfl⟩ := moveO_some h
      exact .quiet (field_ok ho h1 hx hv)
    · cases h
  · rename_i t x y ho
    unfold indexO at h
    split at h
    · rename_i cells kk i hx hy
      split at h
      · rename_i m s ag ha
        split at h
        · rename_i hc
          obtain ⟨v, hv, rfl⟩ := moveO_some h
          obtain ⟨e, hu, hs, hg⟩ := arrE_spec ha
          exact .quiet (index_agg_ok ho hu hg hs hx hy hc.1 hc.2 hv)
        · cases h
      · cases h
    · rename_i str kk i hx hy
      split at h
      · rename_i hc; cases h; exact .quiet (idxStr_ok ho hc.1 hx hy hc.2.1 hc.2.2)
      · cases h
    · cases h
  · rename_i x i ho
    unfold extractO at h
    split at h
    · rename_i vs hx
      obtain ⟨v, hv, rfl⟩ := moveO_some h
      exact .quiet (extract_ok ho hx hv)
    · cases h
  · rename_i f first caps ho
    split at h
    · rename_i hf
      unfold funO at h
      split at h
      · rename_i vs hv
        cases h
        have he : first = #[] := Array.eq_empty_of_size_eq_zero hf
        subst he
        obtain ⟨h1, h2⟩ := evArgs_spec hv
        exact .quiet (makeFunc_ok ho (by simpa using h1) (fun j x v hx hv' => h2 j x v (by rw [Array.getElem?_toList]; exact hx) hv'))
      · cases h
    · split at h
      · rename_i hc0
        obtain ⟨x, rfl, hq⟩ := args1_some h; replace h := hq; clear hq
        cases hx : ev x with
        | none => rw [hx] at h; cases h
        | some v =>
          rw [hx] at h
          cases v with
          | ptr i r c =>
            cases h
            refine .quiet (OpOk_quiet fun w G ρ H A a hr _ hop => ⟨.func (.func f) #[a.eval x] #[], ?_, .bfn (hop x (by simp [ho, Op.operands]) _ hx)⟩)
            have : caps = #[] := Array.eq_empty_of_size_eq_zero hc0
            subst this
            simp [execOp, ho, Instr.makeFunc]
          | _ => cases h
      · cases h
  · rename_i args ty ho
    split at h
    · cases h
    · rename_i hne
      obtain ⟨x, rfl, hq⟩ := args1_some h; replace h := hq; clear hq
      have hnum : ty[0]? = some (ty.toList.headD 0) := by
        cases hl : ty.toList with
        | nil => exact absurd (by simp [Array.toList_eq_nil_iff.1 hl]) hne
        | cons a r => rw [← Array.getElem?_toList, hl]; rfl
      cases hx : ev x with
      | none => rw [hx] at h; cases h
      | some v =>
        rw [hx] at h
        cases v with
        | rd s n f =>
          simp only [lenO] at h
          split at h
          · rename_i hs; cases h; exact .quiet (len_ok ho hnum hs hx (.inl ⟨s, f, rfl⟩))
          · cases h
        | sl id r n =>
          simp only [lenO] at h
          split at h
          · rename_i hc; cases h; exact ⟨len_ok ho hnum hc.1 hx (.inr ⟨id, r, rfl, hc.2⟩), fun id' hid => by simp at hid; rw [hid]; exact hc.2, Nat.le_refl _⟩
          · cases h
        | lit u =>
          cases u with
          | string str =>
            simp only [lenO] at h
            split at h
            · rename_i hs; cases h; exact .quiet (lenStr_ok ho hnum hs hx)
            · cases h
          | slice a n c =>
            cases a with
            | some => simp [lenO] at h
            | none =>
              cases n with
              | succ => simp [lenO] at h
              | zero =>
                cases c with
                | succ => simp [lenO] at h
                | zero =>
                  simp only [lenO] at h
                  split at h
                  · rename_i hs; cases h; exact .quiet (lenNil_ok ho hnum hs hx)
                  · cases h
          | _ => simp [lenO] at h
        | _ => simp [lenO] at h
  · rename_i args ty ho
    obtain ⟨x, y, rfl, hq⟩ := args2_some h; replace h := hq; clear hq
    split at h
    · rename_i ht
      have htys : ty = #[ty.toList.headD 0, ty.toList.headD 0] := by rw [← Array.toArray_toList (xs := ty)]; rw [ht]; simp
      generalize ty.toList.headD 0 = t at h htys
      subst htys
      exact aAppend_good ho h
    · cases h
  · rename_i args ty ho
    obtain ⟨x, y, rfl, hq⟩ := args2_some h; replace h := hq; clear hq
    unfold maxO at h
    split at h
    · rename_i k1 a k2 b hx hy
      split at h
      · rename_i he; subst he; cases h
        exact .quiet (maxmin_ok (mx := true) ho hx hy)
      · cases h
    · cases h
  · rename_i args ty ho
    obtain ⟨x, y, rfl, hq⟩ := args2_some h; replace h := hq; clear hq
    unfold minO at h
    split at h
    · rename_i k1 a k2 b hx hy
      split at h
      · rename_i he; subst he; cases h
        exact .quiet (maxmin_ok (mx := false) ho hx hy)
      · cases h
    · cases h
  · rename_i op t x y ty ho
    unfold binO at h
    split at h
    · rename_i a b hx hy
      obtain ⟨v, hv, rfl⟩ := moveO_some h
      simp only [Option.map_eq_some_iff] at hv
      obtain ⟨u, hu, rfl⟩ := hv
      exact .quiet (binV_ok ho hx hy hu)
    · rename_i v z _ hx hy
      split at h
      · rename_i neg hneg; exact aEq_good ho hneg hx hy h
      · cases h
    · cases h
  · rename_i op t x ho
    unfold unO at h
    split at h
    · rename_i a hx
      obtain ⟨v, hv, rfl⟩ := moveO_some h
      simp only [Option.map_eq_some_iff] at hv
      obtain ⟨u, hu, rfl⟩ := hv
      exact .quiet (unV_ok ho hx hu)
    · cases h
  · rename_i src dst x ho
    unfold convO at h
    split at h
    · rename_i k1 k' kk n h1 h2 hx; cases h; exact .quiet (conv_ok ho hx h1 h2)
    · rename_i k1 kk n h1 h2 hx
      split at h
      · rename_i hs; cases h; exact .quiet (convStr_ok ho hx h1 hs)
      · cases h
    · cases h
  · cases h
end
end Go.AM
end
section
namespace Go.AM
inductive Orc where
  | ret (v : AVal)
  | gen (v : AVal) (k' : Nat) (Hc Hout : Heap)
  | raw (d : Option Nat) (out : Out)
  | far (v : AVal) (k' : Nat) (loc Hc Hout : Heap)
def Orc.out (c : Orc) (k : Nat) : Out :=
  match c with
  | .ret v => ⟨v, k, [], []⟩
  | .gen v k' Hc Hout => callOut v k' Hc Hout
  | .raw _ out => out
  | .far v k' _ Hc Hout => callOut v k' Hc Hout
def Orc.heap (c : Orc) (k : Nat) (H : Heap) : Heap :=
  match c with
  | .far _ _ loc _ Hout => loc ++ Hout
  | c => updH H (c.out k).upd
def setH : Heap → Nat → Blk → Heap
  | [], i, B => [(i, B)]
  | (a, x) :: r, i, B => if a = i then (a, B) :: r else (a, x) :: setH r i B
def setL (H : Heap) : List (Nat × Option Blk) → Heap
  | [] => H
  | (i, some B) :: r => setH (setL H r) i B
  | (i, none) :: r => del (setL H r) i
def isStore (o : Oper) : Bool :=
  match o.op with
  | .store .. => true
  | _ => false
def hupd (b : Bool) (H : Heap) (u : List (Nat × Option Blk)) : Heap :=
  match b with
  | true => setL H u
  | false => updH H u
theorem look_setH : ∀ (H : Heap) (i : Nat) (B : Blk) (j : Nat), look (setH H i B) j = if j = i then some B else look H j
  | [], i, B, j => by simp only [setH, look, eq_comm]
  | (a, x) :: r, i, B, j => by
    simp only [setH]
    by_cases h : a = i
    · subst h
      rw [if_pos rfl]
      simp only [look]
      by_cases hj : a = j
      · subst hj; rw [if_pos rfl, if_pos rfl]
      · rw [if_neg hj, if_neg hj, if_neg (fun e => hj e.symm)]
    · rw [if_neg h]
      simp only [look]
      by_cases hj : a = j
      · subst hj; rw [if_pos rfl, if_pos rfl, if_neg h]
      · rw [if_neg hj, if_neg hj, look_setH r i B j]
theorem look_setL (H : Heap) : ∀ (u : List (Nat × Option Blk)) (j : Nat), look (setL H u) j = look (updH H u) j
  | [], _ => rfl
  | (i, some B) :: r, j => by
    rw [setL, look_setH, look_setL H r j]
    simp only [updH, look, look_del]
    by_cases h : j = i
    · subst h; simp
    · rw [if_neg h, if_neg (fun e => h e.symm), if_neg h]
  | (i, none) :: r, j => by
    rw [setL, look_del]
    simp only [updH, look_del]
    rw [look_setL H r j]
theorem look_hupd (b : Bool) (H : Heap) (u : List (Nat × Option Blk)) : look (hupd b H u) = look (updH H u) := by
  cases b
  · rfl
  · exact funext fun j => look_setL H u j
theorem updH_congr {H H' : Heap} (h : look H = look H') (u : List (Nat × Option Blk)) : look (updH H u) = look (updH H' u) := funext fun i => by rw [look_updH, look_updH, h]
theorem look_app : ∀ (a b : Heap) (i : Nat), look (a ++ b) i = match look a i with | some x => some x | none => look b i
  | [], b, i => rfl
  | (j, x) :: r, b, i => by
    simp only [List.cons_append, look]
    by_cases h : j = i
    · rw [if_pos h, if_pos h]
    · rw [if_neg h, if_neg h]; exact look_app r b i
def rawAt (d : Option Nat) : List Orc → Option (Out × List Orc)
  | .raw d' out :: r => if d = d' then some (out, r) else none
  | _ => none
def isCall (o : Oper) : Bool :=
  match o.op with
  | .call { callee := .value _, args := _, argTypes := _ } => true
  | _ => false
def rawOp (o : Oper) : Bool :=
  match o.op with
  | .call { callee := .builtin .copy, args := _, argTypes := _ } => true
  | .call { callee := .builtin .cap, args := _, argTypes := _ } => true
  | .call { callee := .builtin .clear, args := _, argTypes := _ } => true
  | .call { callee := .builtin .delete, args := _, argTypes := _ } => true
  | .call { callee := .builtin .append, args := _, argTypes := ty } => match ty.toList with | [a, b] => a != b | _ => false
  | .slice _ _ _ _ (some _) => true
  | .lookup .. => true
  | .mapUpdate .. => true
  | .makeMap .. => true
  | .range .. => true
  | .next .. => true
  | _ => false
def inH (get : Nat → Option Blk) : Heap → Prop
  | [] => True
  | (id, B) :: r => get id = some B ∧ inH get r
def eqG (get : Nat → Option Blk) (H : Heap) : Prop := ∀ i, get i = look H i
def apartH (loc Hc Hout : Heap) : Prop := ∀ i, keyB Hc i = true ∨ keyB Hout i = true → look loc i = none
def CallReq (P : Program) (Γ : List (Nat × List AVal)) (o : Oper) (ev : Operand → Option AVal) (get : Nat → Option Blk) (k : Nat) (c : Orc) : Prop :=
  match o.op with
  | .call { callee := .value f, args := args, argTypes := _ } => match ev f, evArgs ev args.toList with
    | some (.fn g caps), some vs => callable P g = true ∧ (match c with
      | .ret v => (vs ++ caps).all (bd fun _ => false) = true ∧ Pure P Γ g (vs ++ caps) v
      | .gen v k' Hc Hout => (vs ++ caps).all (bd (keyB Hc)) = true ∧ bdH (keyB Hc) Hc = true ∧ inH get Hc ∧ k ≤ k' ∧ Tr P Γ g k (vs ++ caps) Hc (fun k1 r1 H1 => k1 = k' ∧ r1 = v ∧ H1 = Hout)
      | .raw _ _ => False
      | .far v k' loc Hc Hout => (vs ++ caps).all (bd (keyB Hc)) = true ∧ bdH (keyB Hc) Hc = true ∧ eqG get (loc ++ Hc) ∧ apartH loc Hc Hout ∧ k ≤ k' ∧ Tr P Γ g k (vs ++ caps) Hc (fun k1 r1 H1 => k1 = k' ∧ r1 = v ∧ H1 = Hout))
    | some (.bfn g i r0 c0), some vs => callable P g = true ∧ (match c with
      | .ret _ => False
      | .gen v k' Hc Hout => (.ptr i r0 c0 :: vs).all (bd (keyB Hc)) = true ∧ bdH (keyB Hc) Hc = true ∧ inH get Hc ∧ k ≤ k' ∧ Tr P Γ g k (.ptr i r0 c0 :: vs) Hc (fun k1 r1 H1 => k1 = k' ∧ r1 = v ∧ H1 = Hout)
      | .raw _ _ => False
      | .far v k' loc Hc Hout => (.ptr i r0 c0 :: vs).all (bd (keyB Hc)) = true ∧ bdH (keyB Hc) Hc = true ∧ eqG get (loc ++ Hc) ∧ apartH loc Hc Hout ∧ k ≤ k' ∧ Tr P Γ g k (.ptr i r0 c0 :: vs) Hc (fun k1 r1 H1 => k1 = k' ∧ r1 = v ∧ H1 = Hout))
    | _, _ => False
  | _ => False
def gcase (g : Option Bool) (X Y : Prop) : Prop :=
  match g with
  | none => False
  | some b => if b = true then Y else X
def ocase (g : Option Out) (f : Out → Prop) : Prop :=
  match g with
  | none => False
  | some out => f out
def ccase (cs : List Orc) (f : Orc → List Orc → Prop) : Prop :=
  match cs with
  | [] => False
  | c :: r => f c r
def skipC (o : Oper) (cs : List Orc) : List Orc := match rawAt o.dst cs with
  | some x => x.2
  | none => if isCall o = true then cs.tail else cs
def pcase (g : Option (Out × List Orc)) (f : Out → List Orc → Prop) (X : Prop) : Prop :=
  match g with
  | none => X
  | some x => f x.1 x.2
def RunF (P : Program) (Γ : List (Nat × List AVal)) (all : Array Oper) : List Oper → List Orc → Nat → Fr → Heap → (List Foot → Nat → Fr → Heap → Prop) → Prop
  | [], _, k, fr, H, K => K [] k fr H
  | o :: r, cs, k, fr, H, K => gcase (guardOf all fr o) (RunF P Γ all r (skipC o cs) k (putO fr o.dst (.lit undef)) H (fun tr => K (⟨[], [], k, k⟩ :: tr)))
      (pcase (rawAt o.dst cs) (fun out cs' => Good P Γ o (aeval Γ fr) (look H) k out ∧ RunF P Γ all r cs' out.k (putO fr o.dst out.v) (setL H out.upd) (fun tr => K (⟨out.rds, out.upd.map (·.1), k, out.k⟩ :: tr)))
      (if isCall o = true then ccase cs fun c cs' => CallReq P Γ o (aeval Γ fr) (look H) k c ∧ RunF P Γ all r cs' (c.out k).k (putO fr o.dst (c.out k).v) (c.heap k H) (fun tr => K (⟨(c.out k).rds, (c.out k).upd.map (·.1), k, (c.out k).k⟩ :: tr))
      else ocase (aop P Γ o (aeval Γ fr) (look H) k) fun out => RunF P Γ all r cs out.k (putO fr o.dst out.v) (hupd (isStore o) H out.upd) (fun tr => K (⟨out.rds, out.upd.map (·.1), k, out.k⟩ :: tr))))
section
variable {P : Program} {Γ : List (Nat × List AVal)}
theorem inH_look {get : Nat → Option Blk} : ∀ {Hc : Heap}, inH get Hc → ∀ id B, look Hc id = some B → get id = some B
  | [], _, id, B, h => by simp [look] at h
  | (i, C) :: r, ⟨h1, h2⟩, id, B, h => by
    simp only [look] at h
    split at h
    · rename_i he; subst he; cases h; exact h1
    · exact inH_look h2 id B h
theorem keyB_nil : keyB [] = fun _ => false := funext fun i => rfl
theorem CallReq.good {o : Oper} {ev : Operand → Option AVal} {get : Nat → Option Blk} {k : Nat} {c : Orc} (h : CallReq P Γ o ev get k c) : Good P Γ o ev get k (c.out k) := by
  unfold CallReq at h
  split at h
  · rename_i f args ty ho
    split at h
    · rename_i g caps vs hf ha
      obtain ⟨hg, h⟩ := h
      cases c with
      | ret v =>
        obtain ⟨h1, h2⟩ := h
        have := call_ok (P := P) (Γ := Γ) (get := get) (k := k) (Hc := []) (Hout := []) (r := v) (k' := k) ho hg hf ha (by rw [keyB_nil]; exact h1) rfl (fun id B hB => by simp [look] at hB) (h2 k) (Nat.le_refl _)
        exact this
      | gen v k' Hc Hout =>
        obtain ⟨h1, h2, h3, h4, h5⟩ := h
        exact call_ok ho hg hf ha h1 h2 (inH_look h3) h5 h4
      | raw d out => exact h.elim
      | far v k' loc Hc Hout =>
        obtain ⟨h1, h2, h3, h4, h5, h6⟩ := h
        exact call_ok ho hg hf ha h1 h2 (fun id B hB => by rw [h3, look_app, h4 id (.inl (by simp [keyB, hB]))]; exact hB) h6 h5
    · rename_i g i r0 c0 vs hf ha
      obtain ⟨hg, h⟩ := h
      cases c with
      | gen v k' Hc Hout =>
        obtain ⟨h1, h2, h3, h4, h5⟩ := h
        exact callb_ok ho hg hf ha h1 h2 (inH_look h3) h5 h4
      | ret v => exact h.elim
      | raw d out => exact h.elim
      | far v k' loc Hc Hout =>
        obtain ⟨h1, h2, h3, h4, h5, h6⟩ := h
        exact callb_ok ho hg hf ha h1 h2 (fun id B hB => by rw [h3, look_app, h4 id (.inl (by simp [keyB, hB]))]; exact hB) h6 h5
    · exact h.elim
  · exact h.elim
theorem CallReq.heap {o : Oper} {ev : Operand → Option AVal} {H : Heap} {k : Nat} {c : Orc} (h : CallReq P Γ o ev (look H) k c) : look (c.heap k H) = look (updH H (c.out k).upd) := by
  cases c with
  | far v k' loc Hc Hout =>
    have key : (∀ i, look H i = look (loc ++ Hc) i) ∧ (∀ i, keyB Hc i = true ∨ keyB Hout i = true → look loc i = none) := by
      unfold CallReq at h
      split at h
      · split at h
        · exact ⟨h.2.2.2.1, h.2.2.2.2.1⟩
        · exact ⟨h.2.2.2.1, h.2.2.2.2.1⟩
        · exact h.elim
      · exact h.elim
    obtain ⟨h1, h2⟩ := key
    refine funext fun i => ?_
    show look (loc ++ Hout) i = look (updH H ((Hout.map fun x => (x.1, some x.2)) ++ (Hc.map fun x => (x.1, (none : Option Blk))))) i
    rw [look_updH, modOf_call, look_app, h1, look_app]
    cases ho : look Hout i with
    | some B =>
      rw [h2 i (.inr (by simp [keyB, ho]))]
    | none =>
      cases hc : look Hc i with
      | some B => rw [h2 i (.inl (by simp [keyB, hc]))]
      | none => cases look loc i <;> rfl
  | ret v => rfl
  | gen v k' Hc Hout => rfl
  | raw d out => rfl
theorem Run.mono {all : Array Oper} : ∀ (l : List Oper) (k : Nat) (fr : Fr) (H : Heap) (K K' : List Foot → Nat → Fr → Heap → Prop), (∀ tr k fr H, K tr k fr H → K' tr k fr H) → Run P Γ all l k fr H K → Run P Γ all l k fr H K' := by
  intro l
  induction l with
  | nil => intro k fr H K K' hK h; exact hK _ _ _ _ h
  | cons o r ih =>
    intro k fr H K K' hK h
    rcases h with ⟨h1, h2⟩ | ⟨h1, out, h2, h3⟩
    · exact .inl ⟨h1, ih _ _ _ _ _ (fun tr k fr H h => hK _ _ _ _ h) h2⟩
    · exact .inr ⟨h1, out, h2, ih _ _ _ _ _ (fun tr k fr H h => hK _ _ _ _ h) h3⟩
def likeK (K : List Foot → Nat → Fr → Heap → Prop) : List Foot → Nat → Fr → Heap → Prop := fun tr k fr H => ∃ H', look H = look H' ∧ K tr k fr H'
theorem RunF.run {all : Array Oper} : ∀ (l : List Oper) (cs : List Orc) (k : Nat) (fr : Fr) (H H0 : Heap) (K : List Foot → Nat → Fr → Heap → Prop), look H0 = look H → RunF P Γ all l cs k fr H K → Run P Γ all l k fr H0 (likeK K) := by
  intro l
  induction l with
  | nil => intro cs k fr H H0 K he h; exact ⟨H, he, h⟩
  | cons o r ih =>
    intro cs k fr H H0 K he h
    simp only [RunF, gcase] at h
    split at h
    · exact h.elim
    · rename_i b hg
      split at h
      · rename_i hb
        subst hb
        unfold pcase at h
        split at h
        · split at h
          · unfold ccase at h
            split at h
            · exact h.elim
            · exact .inr ⟨hg, _, by rw [he]; exact h.1.good, ih _ _ _ _ _ _ (by rw [h.1.heap]; exact updH_congr he _) h.2⟩
          · unfold ocase at h
            split at h
            · exact h.elim
            · rename_i out ho
              exact .inr ⟨hg, out, by rw [he]; exact aop_good ho, ih _ _ _ _ _ _ (by rw [look_hupd]; exact updH_congr he _) h⟩
        · rename_i x _
          exact .inr ⟨hg, x.1, by rw [he]; exact h.1, ih _ _ _ _ _ _ (by have := look_hupd true H x.1.upd; simp only [hupd] at this; rw [this]; exact updH_congr he _) h.2⟩
      · rename_i hb
        have : b = false := by simpa using hb
        subst this
        exact .inl ⟨hg, ih _ _ _ _ _ _ he h⟩
def restr (keep : List Nat) : Fr → Fr
  | [] => []
  | (t, v) :: r => if keep.contains t then (t, v) :: restr keep r else restr keep r
theorem look_restr {keep : List Nat} : ∀ {fr : Fr} {t : Nat} {v : AVal}, look (restr keep fr) t = some v → look fr t = some v
  | [], t, v, h => by simp [restr, look] at h
  | (a, x) :: r, t, v, h => by
    simp only [restr] at h
    simp only [look]
    split at h
    · simp only [look] at h
      split at h
      · rename_i he; rw [if_pos he]; exact h
      · rename_i he; rw [if_neg he]; exact look_restr h
    · rename_i hk
      by_cases he : a = t
      · subst he
        exfalso
        have : ∀ (l : Fr) u, look (restr keep l) a ≠ some u := by
          intro l
          induction l with
          | nil => intro u hu; simp [restr, look] at hu
          | cons y ys ih =>
            intro u hu
            obtain ⟨b, z⟩ := y
            simp only [restr] at hu
            split at hu
            · rename_i hb
              simp only [look] at hu
              split at hu
              · rename_i hab; subst hab; exact hk hb
              · exact ih u hu
            · exact ih u hu
        exact this r v h
      · rw [if_neg he]; exact look_restr h
variable {nt kb : Nat} {Q : AQ} {k : Nat} {fr : Fr} {H : Heap}
theorem wk_like (keep : List Nat) {H' : Heap} (he : look H = look H') (hk : kb ≤ k) : WkG kb k fr H k (restr keep fr) H' :=
  ⟨hk, fun t v h => ⟨v, look_restr h, VLe.refl v⟩, fun id B h => ⟨B, by rw [he]; exact h, BLe.refl B⟩, .inl rfl⟩
theorem W_reg {id : Nat} {ops : Array Oper} (keep : List Nat) (cs : List Orc) (hd : dstOk nt ops = true)
    (h : ∀ K : List Foot → Nat → Fr → Heap → Prop, (∀ tr k' fr' H', (kb ≤ k' → Q .normal k' (restr keep fr') H') → K tr k' fr' H') → RunF P Γ ops ops.toList cs k fr H K) : W P Γ nt kb (.region id ops false) Q k fr H :=
  W_upG (W_region hd (Run.mono _ _ _ _ _ _ (fun tr k' fr' H' hq hk' => by
    obtain ⟨H'', he, hq⟩ := hq
    exact ⟨k', restr keep fr', H'', wk_like keep he hk', hq hk'⟩) ((h (fun _ k' fr' H' => kb ≤ k' → Q .normal k' (restr keep fr') H') fun tr k' fr' H' hq => hq).run _ _ _ _ _ _ _ rfl)))
theorem W_drw {id : Nat} {ops : Array Oper} (keep : List Nat) (cs : List Orc) (hm : P.follows .mixedOrders = true) (hd : dstOk nt ops = true)
    (h : ∀ K : List Foot → Nat → Fr → Heap → Prop, (∀ tr k' fr' H', drawOk ops tr = true → (kb ≤ k' → Q .normal k' (restr keep fr') H') → K tr k' fr' H') → RunF P Γ ops ops.toList cs k fr H K) : W P Γ nt kb (.region id ops true) Q k fr H :=
  W_upG (W_draw hm hd (Run.mono _ _ _ _ _ _ (fun tr k' fr' H' hq => by
    obtain ⟨H'', he, hd', hq⟩ := hq
    exact ⟨hd', fun hk' => ⟨k', restr keep fr', H'', wk_like keep he hk', hq hk'⟩⟩) ((h (fun tr k' fr' H' => drawOk ops tr = true ∧ (kb ≤ k' → Q .normal k' (restr keep fr') H')) fun tr k' fr' H' hd' hq => ⟨hd', hq⟩).run _ _ _ _ _ _ _ rfl)))
end
theorem wrap_i64 {n : Int} (h1 : -9223372036854775808 ≤ n) (h2 : n ≤ 9223372036854775807) : IntKind.i64.wrap n = n := by rw [IntKind.wrap_i64]; omega
end Go.AM
end
section
namespace Go.AM
def child : Code → Nat → Code
  | .seq a b, i => if i = 0 then a else b
  | .cond _ a b, i => if i = 0 then a else b
  | .block _ c, _ => c
  | .loop c, _ => c
  | c, _ => c
def cat (c : Code) : List Nat → Code
  | [] => c
  | i :: p => child (cat c p) i
def bodyOf (fn : Func) : Code := fn.body.getD .skip
section
variable {P : Program} {Γ : List (Nat × List AVal)} {nt kb : Nat} {Q : AQ} {k : Nat} {fr : Fr} {H : Heap} {c : Code} {p : List Nat}
theorem C_seq {x y : Code} (hc : cat c p = .seq x y) (h : W P Γ nt kb (cat c (0 :: p)) (thenQ (W P Γ nt kb (cat c (1 :: p)) Q) Q) k fr H) : W P Γ nt kb (cat c p) Q k fr H := by
  have h0 : cat c (0 :: p) = x := by simp [cat, hc, child]
  have h1 : cat c (1 :: p) = y := by simp [cat, hc, child]
  rw [h0, h1] at h
  rw [hc]; exact W_seq h
theorem C_block {id : Nat} {x : Code} (hc : cat c p = .block id x) (h : W P Γ nt kb (cat c (0 :: p)) (blockQ id Q) k fr H) : W P Γ nt kb (cat c p) Q k fr H := by
  have h0 : cat c (0 :: p) = x := by simp [cat, hc, child]
  rw [h0] at h
  rw [hc]; exact W_block h
theorem C_cond {cc : Operand} {x y : Code} (hc : cat c p = .cond cc x y) (t : Bool) (he : aeval Γ fr cc = some (.lit (.bool t))) (ht : t = true → W P Γ nt kb (cat c (0 :: p)) Q k fr H) (hf : t = false → W P Γ nt kb (cat c (1 :: p)) Q k fr H) :
    W P Γ nt kb (cat c p) Q k fr H := by
  have h0 : cat c (0 :: p) = x := by simp [cat, hc, child]
  have h1 : cat c (1 :: p) = y := by simp [cat, hc, child]
  rw [h0] at ht
  rw [h1] at hf
  rw [hc]; exact W_cond t he ht hf
theorem C_loop {x : Code} (hc : cat c p = .loop x) (I : Nat → Nat → Fr → Heap → Prop) (m : Nat) (h0 : I m k fr H)
    (round : ∀ m k fr H, I m k fr H → W P Γ nt kb (cat c (0 :: p)) (thenQ (fun k' fr' H' => ∃ m', m' < m ∧ I m' k' fr' H') Q) k fr H) : W P Γ nt kb (cat c p) Q k fr H := by
  have h1 : cat c (0 :: p) = x := by simp [cat, hc, child]
  rw [h1] at round
  rw [hc]; exact W_loop I m h0 round
theorem C_skip (hc : cat c p = .skip) (h : Q .normal k fr H) : W P Γ nt kb (cat c p) Q k fr H := by rw [hc]; exact W_skip h
theorem C_ret (hc : cat c p = .ret) (h : Q .ret k fr H) : W P Γ nt kb (cat c p) Q k fr H := by rw [hc]; exact W_ret h
theorem C_exit {id : Nat} (hc : cat c p = .exit id) (h : Q (.exit id) k fr H) : W P Γ nt kb (cat c p) Q k fr H := by rw [hc]; exact W_exit h
theorem C_reg {id : Nat} {ops : Array Oper} (hc : cat c p = .region id ops false) (keep : List Nat) (cs : List Orc) (hd : dstOk nt ops = true)
    (h : ∀ K : List Foot → Nat → Fr → Heap → Prop, (∀ tr k' fr' H', (kb ≤ k' → Q .normal k' (restr keep fr') H') → K tr k' fr' H') → RunF P Γ ops ops.toList cs k fr H K) : W P Γ nt kb (cat c p) Q k fr H := by
  rw [hc]; exact W_reg keep cs hd h
theorem C_drw {id : Nat} {ops : Array Oper} (hc : cat c p = .region id ops true) (keep : List Nat) (cs : List Orc) (hm : P.follows .mixedOrders = true) (hd : dstOk nt ops = true)
    (h : ∀ K : List Foot → Nat → Fr → Heap → Prop, (∀ tr k' fr' H', drawOk ops tr = true → (kb ≤ k' → Q .normal k' (restr keep fr') H') → K tr k' fr' H') → RunF P Γ ops ops.toList cs k fr H K) : W P Γ nt kb (cat c p) Q k fr H := by
  rw [hc]; exact W_drw keep cs hm hd h
theorem Tr_at {f : FuncId} {fn : Func} {args : List AVal} {H : Heap} {Q : Nat → AVal → Heap → Prop} (hf : P.funcs[f]? = some fn) (hb : fn.body.isSome = true) (nt : Nat) (hnt : fn.ntmps = nt) (hn : args.length ≤ nt)
    (h : W P Γ nt k (cat (bodyOf fn) []) (retQ P fn Q) k (argFr 0 args) H) : Tr P Γ f k args H Q := by
  obtain ⟨c, hc⟩ := Option.isSome_iff_exists.1 hb
  subst hnt
  refine Tr_body hf hc hn ?_
  have : bodyOf fn = c := by simp [bodyOf, hc]
  rw [cat, this] at h
  exact h
theorem Pure_at {f : FuncId} {fn : Func} {args : List AVal} {r : AVal} (hf : P.funcs[f]? = some fn) (hb : fn.body.isSome = true) (nt : Nat) (hnt : fn.ntmps = nt) (hn : args.length ≤ nt) (hr : bd (fun _ => false) r = true)
    (h : ∀ k, W P Γ nt k (cat (bodyOf fn) []) (retQ P fn (fun _ r1 _ => VLe r1 r)) k (argFr 0 args) []) : Pure P Γ f args r := by
  obtain ⟨c, hc⟩ := Option.isSome_iff_exists.1 hb
  subst hnt
  refine Pure_body hf hc hn hr fun k => ?_
  have := h k
  have e : bodyOf fn = c := by simp [bodyOf, hc]
  rw [cat, e] at this
  exact this
end
end Go.AM
end
section
namespace Go.AM
section
variable {P : Program} {Γ : List (Nat × List AVal)} {all : Array Oper} {r : List Oper} {cs : List Orc} {k : Nat} {fr : Fr} {H : Heap} {K : List Foot → Nat → Fr → Heap → Prop} {o : Oper}
variable {d : Option Nat} {ty : TypeId} {pos : String} {af : Array Edge} {g : Option (Nat × Bool)} {ev : Operand → Option AVal} {get : Nat → Option Blk}
def gdst : List Oper → Nat → Option Nat
  | [], _ => none
  | o :: _, 0 => o.dst
  | _ :: r, n + 1 => gdst r n
theorem gdst_eq : ∀ (l : List Oper) (n : Nat), gdst l n = (l[n]?).bind (·.dst)
  | [], n => by simp [gdst]
  | o :: r, 0 => rfl
  | o :: r, n + 1 => by rw [gdst, gdst_eq r n, List.getElem?_cons_succ]
theorem e_gd0 {l : List Oper} : gdst (o :: l) 0 = o.dst := rfl
theorem e_gd1 {l : List Oper} {n : Nat} : gdst (o :: l) (n + 1) = gdst l n := rfl
theorem e_oi {c : Prop} [Decidable c] {out : Out} {f : Out → Prop} : ocase (if c then some out else none) f = (c ∧ f out) := by
  by_cases h : c <;> simp [ocase, h]
theorem gc_both {b : Bool} {X Y : Prop} (ht : b = true → Y) (hf : b = false → X) : gcase (some b) X Y := by
  cases b
  · exact hf rfl
  · exact ht rfl
theorem e_hret {v : AVal} : Orc.heap (.ret v) k H = H := rfl
theorem e_hgen {v : AVal} {k' : Nat} {Hc Hout : Heap} : Orc.heap (.gen v k' Hc Hout) k H = updH H (callOut v k' Hc Hout).upd := rfl
theorem e_hu0 {u : List (Nat × Option Blk)} : hupd false H u = updH H u := rfl
theorem e_hu1 {u : List (Nat × Option Blk)} : hupd true H u = setL H u := rfl
theorem e_sl0 : setL H [] = H := rfl
theorem e_sl1 {i : Nat} {B : Blk} {u : List (Nat × Option Blk)} : setL H ((i, some B) :: u) = setH (setL H u) i B := rfl
theorem e_sh0 {i : Nat} {B : Blk} : setH [] i B = [(i, B)] := rfl
theorem e_sh1 {a i : Nat} {x B : Blk} {r : Heap} : setH ((a, x) :: r) i B = if a = i then (a, B) :: r else (a, x) :: setH r i B := rfl
theorem e_is : isStore o = match o.op with | .store .. => true | _ => false := rfl
theorem e_ra0 {d : Option Nat} : rawAt d [] = none := rfl
theorem e_ra1 {d : Option Nat} {v : AVal} {l : List Orc} : rawAt d (.ret v :: l) = none := rfl
theorem e_ra2 {d : Option Nat} {v : AVal} {k' : Nat} {Hc Hout : Heap} {l : List Orc} : rawAt d (.gen v k' Hc Hout :: l) = none := rfl
theorem e_ra3 {d d' : Option Nat} {out : Out} {l : List Orc} : rawAt d (.raw d' out :: l) = if d = d' then some (out, l) else none := rfl
theorem e_sk : skipC o cs = match rawAt o.dst cs with | some x => x.2 | none => if isCall o = true then cs.tail else cs := rfl
theorem e_g0 {op : Op} : guardOf all fr ⟨d, op, ty, pos, af, none⟩ = some true := rfl
def gslot (want : Bool) : Option AVal → Option Bool
  | some (.lit v) => some (gval want v)
  | _ => none
theorem e_gu {want : Bool} : gslot want (some (.lit undef)) = some false := rfl
theorem e_g1 {op : Op} {l : List Oper} {j : Nat} {want : Bool} : guardOf l.toArray fr ⟨d, op, ty, pos, af, some (j, want)⟩ = gslot want ((gdst l j).bind (AM.look fr)) := by
  rw [gdst_eq]
  simp only [guardOf, List.getElem?_toArray]
  generalize hall : l.toArray = all
  have e : l = all.toList := by rw [← hall]
  subst e
  generalize ((all.toList[j]?).bind (·.dst)).bind (AM.look fr) = x
  cases x with
  | none => rfl
  | some v => cases v with
    | lit u => cases u <;> rfl
    | _ => rfl
theorem e_gb {b : Bool} : gslot true (some (.lit (.bool b))) = some b := by cases b <;> rfl
theorem e_gb' {b : Bool} : gslot false (some (.lit (.bool b))) = some !b := by cases b <;> rfl
theorem e_creq {f : Operand} {args : Array Operand} {tys : Array TypeId} {c : Orc} : CallReq P Γ ⟨d, .call { callee := .value f, args := args, argTypes := tys }, ty, pos, af, g⟩ ev get k c =
    match ev f, evArgs ev args.toList with
    | some (.fn g caps), some vs => callable P g = true ∧ (match c with
      | .ret v => (vs ++ caps).all (bd fun _ => false) = true ∧ Pure P Γ g (vs ++ caps) v
      | .gen v k' Hc Hout => (vs ++ caps).all (bd (keyB Hc)) = true ∧ bdH (keyB Hc) Hc = true ∧ inH get Hc ∧ k ≤ k' ∧ Tr P Γ g k (vs ++ caps) Hc (fun k1 r1 H1 => k1 = k' ∧ r1 = v ∧ H1 = Hout)
      | .raw _ _ => False
      | .far v k' loc Hc Hout => (vs ++ caps).all (bd (keyB Hc)) = true ∧ bdH (keyB Hc) Hc = true ∧ eqG get (loc ++ Hc) ∧ apartH loc Hc Hout ∧ k ≤ k' ∧ Tr P Γ g k (vs ++ caps) Hc (fun k1 r1 H1 => k1 = k' ∧ r1 = v ∧ H1 = Hout))
    | some (.bfn g i r0 c0), some vs => callable P g = true ∧ (match c with
      | .ret _ => False
      | .gen v k' Hc Hout => (.ptr i r0 c0 :: vs).all (bd (keyB Hc)) = true ∧ bdH (keyB Hc) Hc = true ∧ inH get Hc ∧ k ≤ k' ∧ Tr P Γ g k (.ptr i r0 c0 :: vs) Hc (fun k1 r1 H1 => k1 = k' ∧ r1 = v ∧ H1 = Hout)
      | .raw _ _ => False
      | .far v k' loc Hc Hout => (.ptr i r0 c0 :: vs).all (bd (keyB Hc)) = true ∧ bdH (keyB Hc) Hc = true ∧ eqG get (loc ++ Hc) ∧ apartH loc Hc Hout ∧ k ≤ k' ∧ Tr P Γ g k (.ptr i r0 c0 :: vs) Hc (fun k1 r1 H1 => k1 = k' ∧ r1 = v ∧ H1 = Hout))
    | _, _ => False := rfl
theorem e_oret {v : AVal} : Orc.out (.ret v) k = ⟨v, k, [], []⟩ := rfl
theorem e_ogen {v : AVal} {k' : Nat} {Hc Hout : Heap} : Orc.out (.gen v k' Hc Hout) k = callOut v k' Hc Hout := rfl
theorem e_move {x : Operand} : aop P Γ ⟨d, .move x, ty, pos, af, g⟩ ev get k = moveO k (ev x) := rfl
theorem e_assign {x : Operand} : aop P Γ ⟨d, .assign x, ty, pos, af, g⟩ ev get k = moveO k (ev x) := rfl
theorem e_pick {c x y : Operand} : aop P Γ ⟨d, .pick c x y, ty, pos, af, g⟩ ev get k = pickO k (ev c) (ev x) (ev y) := rfl
theorem e_fa {s f : Nat} {x : Operand} : aop P Γ ⟨d, .fieldAddr s x f, ty, pos, af, g⟩ ev get k = fieldO get k (fieldOff P s f) (ev x) := rfl
theorem e_ia {t : Nat} {x y : Operand} : aop P Γ ⟨d, .indexAddr t x y, ty, pos, af, g⟩ ev get k = aIndexAddr P get k t (ev x) (ev y) := rfl
theorem e_load {t : Nat} {x : Operand} : aop P Γ ⟨d, .load t x, ty, pos, af, g⟩ ev get k = aLoad P get k t (ev x) := rfl
theorem e_store {t : Nat} {x y : Operand} : aop P Γ ⟨d, .store t x y, ty, pos, af, g⟩ ev get k = aStore P get k t (ev x) (ev y) := rfl
theorem e_alloc {t : Nat} : aop P Γ ⟨d, .alloc t, ty, pos, af, g⟩ ev get k = newO P k t (zcells P t) := rfl
theorem e_box {t : Nat} {x : Operand} : aop P Γ ⟨d, .box t x, ty, pos, af, g⟩ ev get k = newO P k t ((ev x).bind acells) := rfl
theorem e_build {t : Nat} {parts : Array (Nat × Operand)} : aop P Γ ⟨d, .build t parts, ty, pos, af, g⟩ ev get k = aBuild P k t (evParts ev parts.toList) := rfl
theorem e_bsl {t n : Nat} {parts : Array (Nat × Operand)} : aop P Γ ⟨d, .buildSlice t n parts, ty, pos, af, g⟩ ev get k = aBuildSlice P k t n (evParts ev parts.toList) := rfl
theorem e_slice {t : Nat} {x : Operand} {lo hi : Option Operand} : aop P Γ ⟨d, .slice t x lo hi none, ty, pos, af, g⟩ ev get k = aSlice P ev get k t x lo hi := rfl
theorem e_index {t : Nat} {x y : Operand} : aop P Γ ⟨d, .index t x y, ty, pos, af, g⟩ ev get k = indexO P k t (ev x) (ev y) := rfl
theorem e_ext {i : Nat} {x : Operand} : aop P Γ ⟨d, .extract x i, ty, pos, af, g⟩ ev get k = extractO k (ev x) i := rfl
theorem e_fun {f : Nat} {caps : Array Operand} : aop P Γ ⟨d, .makeFunc (.func f) #[] caps, ty, pos, af, g⟩ ev get k = funO k f (evArgs ev caps.toList) := rfl
theorem e_len {t : Nat} {x : Operand} : aop P Γ ⟨d, .call { callee := .builtin .len, args := #[x], argTypes := #[t] }, ty, pos, af, g⟩ ev get k = lenO P get k t (ev x) := rfl
theorem e_app {t : Nat} {x y : Operand} : aop P Γ ⟨d, .call { callee := .builtin .append, args := #[x, y], argTypes := #[t, t] }, ty, pos, af, g⟩ ev get k = aAppend P get k t (ev x) (ev y) := by
  simp [aop, args2]
theorem e_bin {op : BinOp} {t t' : Nat} {x y : Operand} : aop P Γ ⟨d, .binOp op t x y t', ty, pos, af, g⟩ ev get k = binO P get k op t (ev x) (ev y) := rfl
theorem e_un {op : UnOp} {t : Nat} {x : Operand} : aop P Γ ⟨d, .unOp op t x, ty, pos, af, g⟩ ev get k = unO k op (ev x) := rfl
theorem e_conv {s t : Nat} {x : Operand} : aop P Γ ⟨d, .convert s t x, ty, pos, af, g⟩ ev get k = convO k (ikind P s) (ikind P t) (isStrT P t) (ev x) := rfl
theorem e_tmp {t : Nat} : aeval Γ fr (.tmp t) = AM.look fr t := rfl
theorem e_const {v : Value} : aeval Γ fr (.const v) = some (.lit v) := rfl
theorem e_func {f : Nat} : aeval Γ fr (.func f) = some (.fn f []) := rfl
theorem e_lk {α : Type} {a i : Nat} {x : α} {l : List (Nat × α)} : AM.look ((a, x) :: l) i = if a = i then some x else AM.look l i := rfl
theorem e_ln {α : Type} {i : Nat} : AM.look ([] : List (Nat × α)) i = none := rfl
theorem e_dl {α : Type} {a i : Nat} {x : α} {l : List (Nat × α)} : del ((a, x) :: l) i = if a = i then del l i else (a, x) :: del l i := rfl
theorem e_dn {α : Type} {i : Nat} : del ([] : List (Nat × α)) i = [] := rfl
theorem e_put {t : Nat} {v : AVal} : putO fr (some t) v = (t, v) :: del fr t := rfl
theorem e_put0 {v : AVal} : putO fr none v = fr := rfl
theorem e_u0 : updH H [] = H := rfl
theorem e_u1 {i : Nat} {B : Blk} {u : List (Nat × Option Blk)} : updH H ((i, some B) :: u) = (i, B) :: del (updH H u) i := rfl
theorem e_u2 {i : Nat} {u : List (Nat × Option Blk)} : updH H ((i, none) :: u) = del (updH H u) i := rfl
theorem e_rs0 {keep : List Nat} : restr keep [] = [] := rfl
theorem e_rs1 {keep : List Nat} {t : Nat} {v : AVal} : restr keep ((t, v) :: fr) = if keep.contains t = true then (t, v) :: restr keep fr else restr keep fr := rfl
theorem e_mv {v : AVal} : moveO k (some v) = some (qOut k v) := rfl
theorem e_pk {t : Bool} {x y : Option AVal} : pickO k (some (.lit (.bool t))) x y = moveO k (if t = true then x else y) := rfl
theorem e_fo1 {off : Nat} {c : List AVal} : fieldO get k (some off) (some (.rp c)) = some (qOut k (.rp (c.drop off))) := rfl
theorem e_fo2 {off i r c : Nat} : fieldO get k (some off) (some (.ptr i r c)) = if (get i).isSome = true then some ⟨.ptr i r (c + off), k, [], [i]⟩ else none := rfl
theorem e_no {t : Nat} {cells : List AVal} : newO P k t (some cells) = some ⟨.ptr k 0 0, k + 1, [(k, some (newBlk P t cells))], []⟩ := rfl
theorem e_ix1 {t : Nat} {cells : List AVal} {kk : IntKind} {i : Int} : indexO P k t (some (.agg cells)) (some (.lit (.int kk i))) = match arrE P t with
    | some (m, s, ag) => if 0 ≤ i ∧ i < m then moveO k (rowPart ag s cells (i.toNat * s)) else none
    | none => none := rfl
theorem e_ix2 {t : Nat} {str : ByteArray} {kk : IntKind} {i : Int} : indexO P k t (some (.lit (.string str))) (some (.lit (.int kk i))) = if isStrT P t = true ∧ 0 ≤ i ∧ i < str.size then some (qOut k (.lit (.int .u8 ((str.data.toList.getD i.toNat 0).toNat)))) else none := rfl
theorem e_ex {vs : List AVal} {i : Nat} : extractO k (some (.tup vs)) i = moveO k (vs[i]?) := rfl
theorem e_fn {f : Nat} {vs : List AVal} : funO k f (some vs) = some (qOut k (.fn f vs)) := rfl
theorem e_le1 {t s n : Nat} {f : Nat → List AVal} : lenO P get k t (some (.rd s n f)) = if isSliceT P t = true then some (qOut k (.lit (.int .i64 n))) else none := rfl
theorem e_le2 {t i r n : Nat} : lenO P get k t (some (.sl i r n)) = if isSliceT P t = true ∧ (get i).isSome = true then some ⟨.lit (.int .i64 n), k, [], [i]⟩ else none := rfl
theorem e_le3 {t : Nat} {str : ByteArray} : lenO P get k t (some (.lit (.string str))) = if isStrT P t = true then some (qOut k (.lit (.int .i64 str.size))) else none := rfl
theorem e_bo {op : BinOp} {t : Nat} {a b : Value} : binO P get k op t (some (.lit a)) (some (.lit b)) = moveO k ((binV P op t a b).map .lit) := rfl
theorem e_uo {op : UnOp} {a : Value} : unO k op (some (.lit a)) = moveO k ((unV op a).map .lit) := rfl
theorem e_co {k1 k2 k3 : IntKind} {n : Int} {st : Bool} : convO k (some k1) (some k2) st (some (.lit (.int k3 n))) = some (qOut k (.lit (.int k2 (k2.wrap n)))) := rfl
theorem e_cs {k1 k3 : IntKind} {n : Int} : convO k (some k1) none true (some (.lit (.int k3 n))) = some (qOut k (.lit (.string (Utf8.encode n)))) := rfl
theorem e_ai1 {t s n : Nat} {f : Nat → List AVal} {kk : IntKind} {i : Int} : aIndexAddr P get k t (some (.rd s n f)) (some (.lit (.int kk i))) = if esz P t = some s ∧ 0 ≤ i ∧ i < n then some ⟨.rp (f i.toNat), k, [], []⟩ else none := rfl
theorem e_ai2 {t id r n : Nat} {kk : IntKind} {i : Int} : aIndexAddr P get k t (some (.sl id r n)) (some (.lit (.int kk i))) = match get id with
    | some B => if esz P t = some B.sz ∧ 0 ≤ i ∧ i < n then some ⟨.ptr id (r + i.toNat) 0, k, [], [id]⟩ else none
    | none => none := rfl
theorem e_ai4 {t id r c : Nat} {kk : IntKind} {i : Int} : aIndexAddr P get k t (some (.ptr id r c)) (some (.lit (.int kk i))) = match arr P t, get id with
    | some (m, s), some B => if 0 ≤ i ∧ i < m then some ⟨if B.sz = s ∧ c = 0 then .ptr id (r + i.toNat) 0 else .ptr id r (c + i.toNat * s), k, [], [id]⟩ else none
    | _, _ => none := rfl
def load1 (k : Nat) (ag : Option Bool) (n : Option Nat) (cells : List AVal) : Option Out :=
  match ag, n with
  | some ag, some n => moveO k (rowPart ag n cells 0)
  | _, _ => none
theorem e_ld1 {t : Nat} {cells : List AVal} : aLoad P get k t (some (.rp cells)) = load1 k (tagg P t) (tsz P t) cells := by
  unfold aLoad load1
  cases tagg P t <;> cases tsz P t <;> try rfl
  simp only [qOut]
  cases rowPart _ _ _ _ <;> rfl
theorem e_ld1s {ag : Bool} {n : Nat} {cells : List AVal} : load1 k (some ag) (some n) cells = moveO k (rowPart ag n cells 0) := rfl
def load2 (k : Nat) (ag : Option Bool) (n : Option Nat) (B : Option Blk) (id r c : Nat) : Option Out :=
  match ag, n, B with
  | some ag, some n, some B => if r = 0 ∧ c = 0 ∧ B.sz < n then (rowPart ag n B.rows.flatten 0).map fun v => ⟨v, k, [], [id]⟩ else match B.rows[r]? with
      | some row => (rowPart ag n row c).map fun v => ⟨v, k, [], [id]⟩
      | none => none
  | _, _, _ => none
theorem e_ld2 {t id r c : Nat} : aLoad P get k t (some (.ptr id r c)) = load2 k (tagg P t) (tsz P t) (get id) id r c := by
  unfold aLoad load2
  cases tagg P t <;> cases tsz P t <;> try rfl
  cases hg : get id with
  | none => simp only [hg]
  | some B => simp only [hg]; all_goals (cases B.rows[r]? <;> rfl)
theorem e_ld2s {ag : Bool} {n : Nat} {B : Blk} {id r c : Nat} : load2 k (some ag) (some n) (some B) id r c = if r = 0 ∧ c = 0 ∧ B.sz < n then (rowPart ag n B.rows.flatten 0).map fun v => ⟨v, k, [], [id]⟩ else match B.rows[r]? with
      | some row => (rowPart ag n row c).map fun v => ⟨v, k, [], [id]⟩
      | none => none := rfl
theorem e_ap1 {t : Nat} {y : Option AVal} : aAppend P get k t (some (.lit (.slice none 0 0))) y = match ezero P t, y.bind (aSrc get) with
    | some (s, by', _), some (s', m, rows, p, ids) => if m = 0 then some ⟨.lit (.slice none 0 0), k, [], ids⟩
      else if s' = s ∧ 0 < m ∧ m ≤ 9223372036854775807 ∧ m * by' ≤ 140737488355328 ∧ (rows.all fun row => row.all one) = true then some ⟨.sl k 0 m, k + 1, [(k, some ⟨s, p, rows⟩)], ids⟩ else none
    | _, _ => none := by
  unfold aAppend
  cases ezero P t <;> cases y.bind (aSrc get) <;> rfl
theorem e_ap2 {t id n : Nat} {y : Option AVal} : aAppend P get k t (some (.sl id 0 n)) y = match ezero P t, y.bind (aSrc get) with
    | some (s, by', _), some (s', m, rows, p, ids) => match get id with
      | some B => if m = 0 then some ⟨.sl id 0 n, k, [], id :: ids⟩
        else if s' = s ∧ B.sz = s ∧ B.rows.length = n ∧ id < k ∧ 0 < m ∧ n + m ≤ 9223372036854775807 ∧ (n + m) * by' ≤ 140737488355328 ∧ (rows.all fun row => row.all one) = true then
          some ⟨.sl k 0 (n + m), k + 1, [(k, some ⟨s, B.pure && p, B.rows ++ rows⟩), (id, none)], id :: ids⟩ else none
      | none => none
    | _, _ => none := by
  unfold aAppend
  cases ezero P t <;> cases y.bind (aSrc get) <;> rfl
theorem e_rp1 {n c : Nat} {row : List AVal} : rowPart false n row c = row[c]? := rfl
theorem e_rp2 {n c : Nat} {row : List AVal} : rowPart true n row c = if c + n ≤ row.length then some (.agg ((row.drop c).take n)) else none := rfl
def store1 (k : Nat) (n : Option Nat) (B : Option Blk) (id r c : Nat) (cells : Option (List AVal)) : Option Out :=
  match n, cells, B with
  | some n, some cells, some B => if r = 0 ∧ c = 0 ∧ B.sz < n then (if cells.length = n ∧ cells.all one = true ∧ 0 < B.sz ∧ n = B.rows.length * B.sz then some ⟨.junk, k, [(id, some ⟨B.sz, cells.all clean, chunks B.sz B.rows.length cells⟩)], [id]⟩ else none) else match B.rows[r]? with
      | some row => if cells.length = n ∧ cells.all one = true ∧ c + n ≤ row.length then some ⟨.junk, k, [(id, some ⟨B.sz, B.pure && cells.all clean, B.rows.set r (setPart row cells c)⟩)], [id]⟩ else none
      | none => none
  | _, _, _ => none
theorem e_st {t id r c : Nat} {y : Option AVal} : aStore P get k t (some (.ptr id r c)) y = store1 k (tsz P t) (get id) id r c (y.bind acells) := by
  unfold aStore store1
  cases tsz P t <;> cases y.bind acells <;> try rfl
  cases hg : get id with
  | none => simp only [hg]
  | some B => simp only [hg]; all_goals (cases B.rows[r]? <;> rfl)
theorem e_sts {n id r c : Nat} {B : Blk} {cells : List AVal} : store1 k (some n) (some B) id r c (some cells) = if r = 0 ∧ c = 0 ∧ B.sz < n then (if cells.length = n ∧ cells.all one = true ∧ 0 < B.sz ∧ n = B.rows.length * B.sz then some ⟨.junk, k, [(id, some ⟨B.sz, cells.all clean, chunks B.sz B.rows.length cells⟩)], [id]⟩ else none) else match B.rows[r]? with
      | some row => if cells.length = n ∧ cells.all one = true ∧ c + n ≤ row.length then some ⟨.junk, k, [(id, some ⟨B.sz, B.pure && cells.all clean, B.rows.set r (setPart row cells c)⟩)], [id]⟩ else none
      | none => none := rfl
end
section
variable {p : Nat → Bool} {cs : List AVal} {i r c : Nat} {v : Value} {f : Nat → List AVal} {g : FuncId}
theorem b_F0 : bdF p [] = true := rfl
theorem b_F1 {t : Nat} {x : AVal} {fr : Fr} : bdF p ((t, x) :: fr) = (bd p x && bdF p fr) := rfl
theorem b_H0 : bdH p [] = true := rfl
theorem b_H1 {B : Blk} {H : Heap} : bdH p ((i, B) :: H) = ((p i && (B.pure || B.rows.all fun row => row.all (bd0 p))) && bdH p H) := rfl
theorem b_2 : bd p (.lit v) = true := rfl
theorem b_3 : bd p (.ptr i r c) = p i := rfl
theorem b_4 : bd p (.sl i r c) = p i := rfl
theorem b_5 : bd p (.rp cs) = true := rfl
theorem b_6 : bd p (.rd i r f) = true := rfl
theorem b_7 : bd p (.agg cs) = cs.all (bd0 p) := rfl
theorem b_8 : bd p (.fn g cs) = cs.all (bd0 p) := rfl
theorem b_12 : bd1 p (.lit v) = true := rfl
theorem b_13 : bd1 p (.ptr i r c) = p i := rfl
theorem b_14 : bd1 p (.sl i r c) = p i := rfl
theorem b_16 : bd1 p (.rd i r f) = true := rfl
theorem b_21 : bd0 p .junk = true := rfl
theorem b_22 : bd0 p (.lit v) = true := rfl
theorem b_23 : bd0 p (.ptr i r c) = p i := rfl
theorem b_24 : bd0 p (.sl i r c) = p i := rfl
theorem b_26 : bd0 p (.rd i r f) = true := rfl
end
attribute [go_sem] e_hret e_hgen e_hu0 e_hu1 e_sl0 e_sl1 e_sh0 e_sh1 e_is e_sk e_ra0 e_ra1 e_ra2 e_ra3 List.tail_cons List.tail_nil e_gd0 e_gd1 e_oi e_g0 e_g1 e_gb e_gb' e_gu e_creq e_oret e_ogen e_move e_assign e_pick e_fa e_ia e_load e_store e_alloc e_box e_build e_bsl e_slice e_index e_ext e_fun e_len e_app e_bin e_un e_conv e_tmp e_const e_func e_lk e_ln e_dl e_dn e_put e_put0 e_u0 e_u1 e_u2 e_mv e_pk e_fo1 e_fo2 e_no e_ix1 e_ix2 e_ex e_fn e_le1 e_le2 e_le3 e_bo e_uo e_co e_cs e_ai1 e_ai2 e_ai4 e_ld1 e_ld1s e_ld2 e_ld2s e_rp1 e_rp2 e_st e_sts isCall qOut binV intBin isShift shBin strBin unV decide_eq_true_eq decide_eq_false_iff_not decide_true decide_false Option.map_some Option.map_none Option.bind_some Option.bind_none Option.isSome_some Option.some.injEq List.getElem?_toArray List.getElem?_cons_succ List.getElem?_cons_zero List.map_cons List.map_nil List.drop_succ_cons List.drop_zero List.drop_nil List.take_succ_cons List.take_zero List.length_cons List.length_nil List.all_cons List.all_nil Bool.and_true Bool.and_self Bool.true_and Bool.false_and Bool.and_false Bool.not_true Bool.not_false true_and and_true and_self false_and and_false argFr beq_self_eq_true Nat.zero_add Nat.add_zero acells one clean Value.oneCell' evParts evArgs List.append_nil List.nil_append List.cons_append fillA setPart List.set_cons_zero List.set_cons_succ newBlk thenQ e_rs0 e_rs1 List.contains_cons List.contains_nil Bool.or_false Bool.or_true Bool.true_or Bool.false_or Bool.false_eq_true if_true if_false Bool.true_eq_false true_implies false_implies implies_true forall_const imp_self not_true_eq_false not_false_eq_true isNeg aEq isAggV nilLike notNil kindOf rdsOf List.isEmpty_nil aBuild aBuildSlice aMake e_ap1 e_ap2 aSrc aSlice bound Option.map chunks List.flatten_cons List.flatten_nil List.replicate_succ List.replicate_zero retQ resA resVs resV blockQ leF leH b_F0 b_F1 b_H0 b_H1 b_2 b_3 b_4 b_5 b_6 b_7 b_8 b_12 b_13 b_14 b_16 b_21 b_22 b_23 b_24 b_26 List.isEmpty_cons ltB keyB inH callOut
end Go.AM
end
section
namespace Go.AM
section
variable {P : Program} {Γ : List (Nat × List AVal)} {nt kb : Nat} {Q : AQ} {k : Nat} {fr : Fr} {H : Heap} {c : Code} {p : List Nat}
theorem VLe.of_eq {v v' : AVal} (h : v = v') : VLe v v' := h ▸ VLe.refl v
theorem wk_of {k1 : Nat} {fr1 : Fr} {H1 : Heap} (hb : kb ≤ k1) (hf : leF fr fr1) (hH : leH H H1) (h : k1 = k ∨ (bdF (ltB k1) fr1 = true ∧ bdH (ltB k1) H1 = true)) : WkG kb k fr H k1 fr1 H1 :=
  ⟨hb, fun t v hv => ⟨v, leF_look hf t v hv, VLe.refl v⟩, fun id B hB => ⟨B, leH_look hH id B hB, BLe.refl B⟩, h⟩
end
end Go.AM
end
