/- The evaluator of calls, code and regions; its parts are sound. -/
import Derived.Test.YtkdhdocnbcnedaaGreatDoorAxA
import Derived.RangeFuncRecord
import Derived.RecoverIn
import Derived.OrdersIn
import Derived.LoopNIn
set_option linter.unusedVariables false
set_option linter.unusedSimpArgs false
namespace Go.Ax
variable {P : Program} {G : Glob} {E : Env} {S : ASt} {w : World} {T : Tabs}

noncomputable def byteVals (s : ByteArray) : List Value := s.data.toList.map fun b => .int .u8 b.toNat

noncomputable def aS2B (T : Tabs) (S : ASt) (nm : Nat) (src dst : TypeId) (s : ByteArray) : EffRes :=
  match T.und src, T.und dst with
  | some _, some (.slice e) => match T.und e with
    | some (.int .u8) => match aNewCells S nm (byteVals s) e 1 with
      | some S' => some (.slice (some ⟨nm, 0, none⟩) s.size loose, S')
      | none => none
    | _ => none
  | _, _ => none

theorem aS2B_ok (hT : T.Ok P) (h : Rep G E S w) {nm : Nat} {src dst : TypeId} {s : ByteArray} {r : Value} {S' : ASt} (he : aS2B T S nm src dst s = some (r, S')) (hn : E nm = none) (hc : nm < S.ctr) :
    EffOk P G E S w nm (convert src dst (.string s)) r S' := by
  unfold aS2B at he
  split at he
  case h_2 => cases he
  rename_i d e hus hud
  have hus := hT.und _ _ hus
  have hud := hT.und _ _ hud
  split at he
  case h_2 => cases he
  rename_i hue
  have hue := hT.und _ _ hue
  split at he
  case h_2 => cases he
  rename_i S1 hn1
  cases he
  have e1 : (convert src dst (.string s)).run P w = (Conv.stringToBytes e s).run P w := by
    simp only [convert, Sem.run_bind, run_und hus, run_und hud, Result.andThen, run_und hue]
  have key : ∃ (cap d : Nat) (c' : Array Value) (fr : Nat × Nat), fr.1 = c'.size ∧ s.size ≤ cap ∧ c'.size = cap ∧ (∀ (j : Nat) (hj : j < (byteVals s).length), c'[j]? = some (byteVals s)[j]) ∧
      (Conv.stringToBytes e s).run P w = .ok (.slice (some ⟨w.heap.size, 0, none⟩) s.size cap) { w with drawn := d, heap := w.heap.push (.cells c' e fr) } := by
    obtain ⟨cap, hcap⟩ : ∃ cap, cap = (Question.appendCap s.size 0 e).cut (w.tape w.drawn (Question.appendCap s.size 0 e)) := ⟨_, rfl⟩
    have hle : s.size ≤ cap := by rw [hcap]; exact Nat.le_add_right _ _
    obtain ⟨c', hc'⟩ : ∃ c', c' = Array.map (fun b => Value.int IntKind.u8 ↑b.toNat) s.data ++ Array.replicate (cap - s.size) (Value.int IntKind.u8 0) := ⟨_, rfl⟩
    have hsz : c'.size = cap := by
      rw [hc']
      have : s.data.size = s.size := rfl
      simp [this]; omega
    refine ⟨cap, w.drawn + 1, c', (c'.size, c'.size + 1), rfl, hle, hsz, fun j hj => ?_, ?_⟩
    · have hj' : j < s.data.size := by simpa [byteVals] using hj
      rw [hc', Array.getElem?_append_left (by simpa using hj')]
      simp [byteVals]
      exact ⟨s.data[j], by simp [hj'], rfl⟩
    · have hm : ((w.drew.alloc (.cells c' e (0, 0))).freeze { block := w.heap.size, off := c'.size } 1) = { w with drawn := w.drawn + 1, heap := w.heap.push (.cells c' e (c'.size, c'.size + 1)) } := by
        unfold World.freeze
        rw [if_neg (by omega)]
        simp only [World.alloc, World.drew]
        congr 1
        apply Array.ext_getElem?
        intro k
        rw [Array.getElem?_modify]
        by_cases hk : w.heap.size = k
        · subst hk; simp
        · rw [if_neg hk]
          simp only [Array.getElem?_push]
          rw [if_neg (fun e => hk e.symm), if_neg (fun e => hk e.symm)]
      have hsh : (w.drew.alloc (.cells c' e (0, 0))).shape? w.heap.size = some (e, c'.size) := by
        have hg : (w.drew.alloc (.cells c' e (0, 0))).heap[w.heap.size]? = some (.cells c' e (0, 0)) := by
          show (w.heap.push _)[w.heap.size]? = _
          simp
        unfold World.shape?
        rw [hg]
      have hmk : (markStringish { block := w.heap.size, off := 0 }).run P (w.drew.alloc (.cells c' e (0, 0))) = .ok () ((w.drew.alloc (.cells c' e (0, 0))).freeze { block := w.heap.size, off := c'.size } 1) := by
        simp [markStringish, shape, Sem.run, hsh, freeze]
      have hch : (choose (.appendCap s.size 0 e)).run P w = .ok cap w.drew := by
        rw [hcap]
        rfl
      unfold Conv.stringToBytes
      rw [Sem.run_bind, hch]
      simp only [Result.andThen, ← hc']
      rw [Sem.run_bind, run_newRow]
      simp only [Result.andThen]
      rw [Sem.run_bind]
      show (Sem.run P (markStringish { block := w.heap.size, off := 0 }) (w.drew.alloc (.cells c' e (0, 0)))).andThen _ = _
      rw [hmk, hm]
      rfl
  obtain ⟨cap, d', c', fr, k0, k1, k2, k3, k4⟩ := key
  unfold aNewCells at hn1
  split at hn1
  case h_2 => cases hn1
  rename_i ht
  have ht : nm < top := by simpa [Nat.blt_eq] using ht
  cases hn1
  have hlen : (byteVals s).length = s.size := by simp [byteVals]
  have hp := h.new (i := ⟨w.heap.size, 0, 1, c'.size⟩) (o := .cells (byteVals s) e 1 0) (o' := .cells c' e fr) hn hc ht rfl
    ⟨rfl, rfl, c', fr, rfl, rfl, by show 0 + (byteVals s).length ≤ c'.size; omega, fun j hj => ⟨_, by simpa using k3 j hj, by simp only [byteVals, List.getElem_map]; exact .int _ _⟩, fun k _ _ hk hh => by
      have hk : k < c'.size := hk
      omega⟩
  refine ⟨_, _, _, e1.trans k4, ?_, (hp.drawn d')⟩
  refine .slice ⟨rfl, rfl, _, Env.put_self, rfl, rfl⟩ ?_
  refine CR.mk0 k1 Env.put_self ?_
  show 0 + 0 + cap * 1 ≤ c'.size
  omega
end Go.Ax
namespace Go.Ax
variable {P : Program} {G : Glob} {E : Env} {S : ASt} {w : World} {T : Tabs}

noncomputable def takeBytes : Nat → List Value → Option (List UInt8)
  | 0, _ => some []
  | n + 1, v :: l => match v with
    | .int .u8 (.ofNat b) => match takeBytes n l with
      | some bs => some (b.toUInt8 :: bs)
      | none => none
    | _ => none
  | _ + 1, [] => none

theorem run_loadBytes : ∀ (n : Nat) (vs : List Value) (bs : List UInt8) (b o : Nat) (acc : ByteArray), takeBytes n vs = some bs →
    (∀ (j : Nat) (h : j < vs.length), ∃ v', w.cell? ⟨b, o + j, none⟩ = some v' ∧ VR E vs[j] v') → (loadBytes ⟨b, o, none⟩ acc n).run P w = .ok ⟨acc.data ++ bs.toArray⟩ w := by
  intro n
  induction n with
  | zero =>
    intro vs bs b o acc h _
    simp only [takeBytes, Option.some.injEq] at h
    subst h
    simp [loadBytes]
  | succ n ih =>
    intro vs bs b o acc h hc
    cases vs with
    | nil => simp [takeBytes] at h
    | cons v l =>
      simp only [takeBytes] at h
      split at h
      case h_2 => cases h
      rename_i c
      split at h
      case h_2 => cases h
      rename_i bs' hb
      cases h
      obtain ⟨v', h1, h2⟩ := hc 0 (by simp)
      simp only [List.getElem_cons_zero] at h2
      cases h2
      have hih := ih l bs' b (o + 1) (acc.push c.toUInt8) hb (fun j hj => by
        obtain ⟨v', h1, h2⟩ := hc (j + 1) (by simpa using hj)
        refine ⟨v', ?_, by simpa using h2⟩
        rw [show o + 1 + j = o + (j + 1) by omega]; exact h1)
      have e1 : (loadBytes ⟨b, o, none⟩ acc (n + 1)).run P w = (loadBytes ⟨b, o + 1, none⟩ (acc.push c.toUInt8) n).run P w := by
        unfold loadBytes
        rw [Sem.run_bind, run_load_cell (by simpa using h1)]
        cases n <;> rfl
      rw [e1, hih]
      simp [ByteArray.push]

noncomputable def aStr (T : Tabs) (S : ASt) (ts : Array TypeId) (p n : Value) : EffRes :=
  match p, n with
  | .pointer (some a), .int _ (.ofNat n) => match ts[0]? with
    | some pt => match T.und pt, Nat.ble 1 n, Nat.ble n 1000000 with
      | some (.pointer u), true, true => match S.mem.get a.block, Nat.blt a.block top with
        | some (.cells vs el es _), true => match Nat.beq el u, T.info el, takeBytes n (vs.drop a.off) with
          | true, some ei, some bs => match Nat.beq ei.size 1 with
            | true => some (.string ⟨bs.toArray⟩, mset S a.block (.cells vs el es top))
            | false => none
          | _, _, _ => none
        | _, _ => none
      | _, _, _ => none
    | none => none
  | _, _ => none

theorem rowAt_self {p : Program} {e : TypeId} {count off n d : Nat} (hs : p.cellsOf e = 1) (h : off + n ≤ count) : rowAt p (sameLayout p p.depth · e) (d + 1) e count off n = true := by
  have hd : ∃ k, p.depth = k + 1 := ⟨2 * (p.types.size + Made.depth) + 1, rfl⟩
  obtain ⟨k, hk⟩ := hd
  unfold rowAt
  simp only [hs, Nat.div_one, Nat.mod_one]
  have : sameLayout p p.depth e e = true := by
    rw [hk]
    unfold sameLayout
    simp
  simp [this, h]

theorem liesAt_self {p : Program} {e : TypeId} {count off n : Nat} (hs : p.cellsOf e = 1) (h : off + n ≤ count) : liesAt p p.depth e count off e n = true := by
  have hd : p.depth = (2 * (p.types.size + Made.depth) + 1) + 1 := rfl
  have h1 := rowAt_self (d := 2 * (p.types.size + Made.depth) + 1) hs h
  have : ∀ d, rowAt p (sameLayout p p.depth · e) p.depth e count off n = true → liesAt p (d + 1) e count off e n = true := fun d h => by
    unfold liesAt
    rw [h]; rfl
  rw [← hd] at h1
  have h2 := this (2 * (p.types.size + Made.depth) + 1) h1
  rw [← hd] at h2
  exact h2

theorem takeBytes_len : ∀ (n : Nat) (vs : List Value) (bs : List UInt8), takeBytes n vs = some bs → n ≤ vs.length := by
  intro n
  induction n with
  | zero => intro vs bs _; omega
  | succ n ih =>
    intro vs bs h
    cases vs with
    | nil => simp [takeBytes] at h
    | cons v l =>
      simp only [takeBytes] at h
      split at h
      case h_2 => cases h
      split at h
      case h_2 => cases h
      have := ih _ _ ‹_›
      simp; omega

theorem aStr_ok {N : Nat → Prop} (hT : T.Ok P) (h : Rep G E S w) {ts : Array TypeId} {ty : TypeId} {p p' n n' r : Value} {S' : ASt} (he : aStr T S ts p n = some (r, S')) (hp : VR E p p') (hn : VR E n n') :
    ∃ w', (Builtin.unsafeString_ ts ty #[p', n']).run P w = .ok r w' ∧ VR E r r ∧ Post G N E S w E S' w' := by
  unfold aStr at he
  split at he
  case h_2 => cases he
  rename_i a k n
  cases hn
  cases hp with
  | @ptr _ a' ha =>
  split at he
  case h_2 => cases he
  rename_i pt hpt
  split at he
  case h_2 => cases he
  rename_i u hu hn1 hn2
  have hu := hT.und _ _ hu
  have hn1 := Nat.le_of_ble_eq_true hn1
  have hn2 := Nat.le_of_ble_eq_true hn2
  split at he
  case h_2 => cases he
  rename_i vs el es fz hm ht
  have ht : a.block < top := by simpa [Nat.blt_eq] using ht
  split at he
  case h_2 => cases he
  rename_i ei bs hel hei hbs
  have hel := beq_t hel
  subst hel
  have hei := hT.info _ _ hei
  split at he
  case h_2 => cases he
  rename_i hsz
  have hsz := beq_t hsz
  have hh := Option.some.inj he
  have hr : r = .string ⟨bs.toArray⟩ := (Prod.mk.inj hh).1.symm
  have hS : S' = mset S a.block (.cells vs el es top) := (Prod.mk.inj hh).2.symm
  subst hr; subst hS
  obtain ⟨s1, s2, i, hE, hblk, ho⟩ := ha
  obtain ⟨i2, o', g1, g2, g3, g30, c0, fr, rfl, g4, g5, g6, g7⟩ := h.obj _ _ hm
  rw [hE] at g1; cases g1
  have hsh : w.shape? a'.block = some (el, c0.size) := by unfold World.shape?; rw [hblk, g2]
  have hcell : P.cellsOf el = 1 := by simp [Program.cellsOf, hei, hsz]
  have hlen := takeBytes_len _ _ _ hbs
  have hlen : n ≤ vs.length - a.off := by simpa using hlen
  have hoff : a'.off = a.off := by omega
  obtain ⟨ab, ao, as⟩ := a'
  simp only at s2 hblk ho hoff hsh
  subst s2
  have hlie : liesAt P P.depth el (c0.size / P.cellsOf el) ao el n = true := by
    refine liesAt_self hcell ?_
    rw [hcell, Nat.div_one]
    omega
  have hld : (loadBytes ⟨ab, ao, none⟩ .empty n).run P w = .ok ⟨bs.toArray⟩ w := by
    have := run_loadBytes (P := P) (w := w) (E := E) n (vs.drop a.off) bs ab ao .empty hbs (fun j hj => by
      have hj' : a.off + j < vs.length := by simp at hj; omega
      obtain ⟨v', q1, q2⟩ := g6 (a.off + j) hj'
      refine ⟨v', ?_, by simpa using q2⟩
      unfold World.cell?
      simp only [hblk, g2, Option.isSome_none, Bool.false_eq_true, if_false]
      rw [hoff, ← q1, g30, Nat.zero_add])
    rw [this]
    have he : ByteArray.empty.data = #[] := rfl
    rw [he]; simp
  have hfz : (w.freeze ⟨ab, ao, none⟩ n).heap = w.heap.modify i.c (fun
        | .cells c elem (lo, hi) => .cells c elem (if lo == hi then (ao, ao + n) else (min lo ao, max hi (ao + n)))
        | o => o) := by
    rw [← hblk]
    unfold World.freeze
    rw [if_neg (by omega)]
    rfl
  refine ⟨w.freeze ⟨ab, ao, none⟩ n, ?_, .string _, ?_⟩
  · have hi1 : ¬ ((n : Int) < 0) := by omega
    have hi2 : ¬ ((n : Int) > IntKind.i64.max) := by
      have : IntKind.i64.max = 9223372036854775807 := rfl
      rw [this]; omega
    have hi3 : ¬ ((n : Int) = 0) := by omega
    have hmain : (Builtin.unsafeString_ ts ty #[.pointer (some ⟨ab, ao, none⟩), .int k (Int.ofNat n)]).run P w =
        (do
          let n' ← asInt (.int k (n : Int))
          let some pt := ts[0]? | stuck "unsafe.String: no argument types"
          if n' < 0 then runtimePanic (.error "unsafe.String: len out of range")
          if n' > IntKind.i64.max then unsupported (.unsafePointer "String: a length above the largest int")
          if n' = 0 then pure (.string .empty)
          else if ← variablesAt ⟨ab, ao, none⟩ (← elemOf pt) n'.toNat then do
            let s ← loadBytes ⟨ab, ao, none⟩ .empty n'.toNat
            freeze ⟨ab, ao, none⟩ n'.toNat
            pure (.string s)
          else unsupported (.unsafePointer "String: not so many bytes at ptr") : Sem Value).run P w := rfl
    have hai : (asInt (.int k (n : Int))).run P w = .ok (n : Int) w := rfl
    rw [hmain, Sem.run_bind, hai]
    simp only [hpt, Sem.run_bind, Sem.run_pure, Result.andThen_ok, if_neg hi1, if_neg hi2, if_neg hi3, elemOf, run_und hu, variablesAt, run_program, Int.toNat_natCast]
    have hshr : (shape ab).run P w = .ok (some (el, c0.size)) w := by simp [shape, Sem.run, hsh]
    rw [hshr]
    simp only [Result.andThen_ok, Sem.run_pure, hlie, if_true, Sem.run_bind, hld]
    simp [freeze, Sem.run]
  · refine h.upd hm hE ht ?_ ?_ ?_ (by rw [hfz]; simp) (o2' := .cells c0 el (if fr.1 == fr.2 then (ao, ao + n) else (min fr.1 ao, max fr.2 (ao + n)))) (fun k => ?_) ⟨g3, g30, c0, _, rfl, g4, g5, g6, fun k hk => absurd hk (Nat.lt_irrefl _)⟩
    · unfold World.freeze; split <;> rfl
    · unfold World.freeze; split <;> rfl
    · unfold World.freeze; split <;> rfl
    · rw [hfz, Array.getElem?_modify]
      by_cases hk : i.c = k
      · subst hk
        rw [if_pos rfl, if_pos rfl, g2]
        rfl
      · rw [if_neg hk, if_neg (fun e => hk e.symm)]
end Go.Ax
namespace Go.Ax
variable {P : Program} {T : Tabs} {G : Glob} {E : Env} {S : ASt} {w : World}

/-- The entry at which a range over a map with one entry stands. -/
noncomputable def aEntry (G : Glob) (S : ASt) (it : Value) : Option Value :=
  match it with
  | .pointer (some a) => match Nat.beq a.off 0, S.mem.get a.block with
    | true, some (.miter (some m) _ seen stepped) => match mlook G S m, seen.toList with
      | some (.map [(k, v, born)] clock), [b] => match Nat.beq clock stepped, Nat.beq b born with
        | true, true => some (.tuple #[k, v])
        | _, _ => none
      | _, _ => none
    | _, _ => none
  | _ => none

theorem aEntry_ok (h : Rep G E S w) {it it' r : Value} (he : aEntry G S it = some r) (hit : VR E it it') :
    ∃ r', (Instr.entry it').run P w = .ok r' w ∧ VR E r r' := by
  unfold aEntry at he
  split at he
  case h_2 => cases he
  rename_i a
  cases hit with
  | @ptr _ a' ha =>
  split at he
  case h_2 => cases he
  rename_i m since seen stepped hoff hm
  have hoff := beq_t hoff
  obtain ⟨s1, s2, i, hE, hblk, ho⟩ := ha
  obtain ⟨i2, o', g1, g2, g0, j, hj, rfl⟩ := h.obj _ _ hm
  rw [hE] at g1; cases g1
  split at he
  case h_2 => cases he
  rename_i k v born clock b hml hseen
  split at he
  case h_2 => cases he
  rename_i h1 h2
  have h1 := beq_t h1
  have h2 := beq_t h2
  cases he
  have hseen : seen = #[b] := by cases seen with | mk l => simp at hseen; rw [hseen]
  subst hseen h1 h2
  obtain ⟨j2, o2', k1, k2, es', rfl, k3⟩ := h.look hml
  rw [hj] at k1; cases k1
  have e : a' = ⟨i.c, 0, a'.spot⟩ := by
    cases a' with | mk x y z =>
    simp only at ho hblk
    rw [g0, hoff] at ho
    rw [ho, hblk]
  have hs1 : es'.size = 1 := k3.1.symm
  obtain ⟨x, rfl⟩ : ∃ x, es' = #[x] := ⟨es'[0], by
    apply Array.ext
    · simp [hs1]
    · intro i h1 h2; have : i = 0 := by omega
      subst this; rfl⟩
  have hx := k3.2 0 (by simp) (by simp)
  simp at hx
  obtain ⟨x1, x2, x3⟩ := hx
  simp only at x1 x2 x3
  refine ⟨.tuple #[x.key, x.val], ?_, .tuple' (.two x1 x2)⟩
  have hg : (getObj i.c).run P w = .ok (.mapIter (some j.c) since #[b] clock) w := by simp [getObj, Sem.run, g2]
  have hgm : (getObj j.c).run P w = .ok (.map #[x] clock) w := by simp [getObj, Sem.run, k2]
  rw [e]
  simp [Instr.entry, hg, hgm, x3]

noncomputable def aClear (T : Tabs) (S : ASt) (t : TypeId) (x : Value) : EffRes :=
  match x with
  | .map (some r) => match T.und t with
    | some (.map _ _) => match S.mem.get r, Nat.blt r top with
      | some (.map _ clock), true => some (.tuple #[], mset S r (.map [] clock))
      | _, _ => none
    | _ => none
  | _ => none

theorem aClear_ok {N : Nat → Prop} (hT : T.Ok P) (h : Rep G E S w) {ts : Array TypeId} {ty t : TypeId} {x x' r : Value} {xs' : Array Value} {S' : ASt} (he : aClear T S t x = some (r, S')) (hx : VR E x x') (ht0 : ts[0]? = some t) (hx0 : xs'[0]? = some x') :
    ∃ w', (Builtin.clear_ ts ty xs').run P w = .ok r w' ∧ VR E r r ∧ Post G N E S w E S' w' := by
  unfold aClear at he
  split at he
  case h_2 => cases he
  rename_i m
  cases hx with
  | @map _ i hi =>
  split at he
  case h_2 => cases he
  rename_i hu
  have hu := hT.und _ _ hu
  split at he
  case h_2 => cases he
  rename_i es clock hm ht
  have ht : m < top := by simpa [Nat.blt_eq] using ht
  cases he
  obtain ⟨i2, o', g1, g2, es', rfl, g3⟩ := h.obj _ _ hm
  rw [hi] at g1; cases g1
  refine ⟨{ w with heap := w.heap.setIfInBounds i.c (.map #[] clock) }, ?_, .tuple' .nil, h.updObj hm hi ht g2 ⟨#[], rfl, rfl, fun j hj => by simp at hj⟩⟩
  have hgo : (getObj i.c).run P w = .ok (.map es' clock) w := by simp [getObj, Sem.run, g2]
  unfold Builtin.clear_
  simp only [ht0, hx0]
  simp [run_und hu, hgo, run_setObj g2]

/-- A slice's elements made zero. -/
noncomputable def aClearS (T : Tabs) (S : ASt) (t : TypeId) (x : Value) : EffRes :=
  match x with
  | .slice (some a) (l + 1) _ => match T.und t with
    | some (.slice e) => match T.info e with
      | some i => match i.zero with
        | some z => match closedV 3 z, Nat.ble (l + 1) 100000 with
          | true, true => match aPoke S a (zeros z.cells.toList (l + 1)) with
            | some S' => some (.tuple #[], S')
            | none => none
          | _, _ => none
        | none => none
      | none => none
    | _ => none
  | _ => none

theorem aClearS_ok {N : Nat → Prop} (hT : T.Ok P) (h : Rep G E S w) {ts : Array TypeId} {ty t : TypeId} {x x' r : Value} {xs' : Array Value} {S' : ASt} (he : aClearS T S t x = some (r, S')) (hx : VR E x x') (ht0 : ts[0]? = some t) (hx0 : xs'[0]? = some x') :
    ∃ w', (Builtin.clear_ ts ty xs').run P w = .ok r w' ∧ VR E r r ∧ Post G N E S w E S' w' := by
  unfold aClearS at he
  split at he
  case h_2 => cases he
  rename_i a l c
  cases hx with
  | @slice _ a' _ _ c' ha hc =>
  split at he
  case h_2 => cases he
  rename_i e hu
  have hu := hT.und _ _ hu
  split at he
  case h_2 => cases he
  rename_i i hi
  have hi := hT.info _ _ hi
  split at he
  case h_2 => cases he
  rename_i z hz
  split at he
  case h_2 => cases he
  rename_i hcz hl
  split at he
  case h_2 => cases he
  rename_i S1 hS
  cases he
  have hr := zeros_rel (E := E) hcz (l + 1) ((l + 1) * z.cells.size) rfl
  obtain ⟨w', e1, e2⟩ := aPoke_ok (P := P) (N := N) h hS ha hr
  refine ⟨w', ?_, .tuple' .nil, e2⟩
  unfold Builtin.clear_
  simp only [ht0, hx0]
  have e3 : (storeCells a' (Builtin.zeroCells z.cells (l + 1)).toList).run P w = .ok () w' := e1
  simp [run_und hu, run_zero hi hz, e3]

/-- A slice of bytes handed on as one: the model marks its block; here it is not written any more. -/
noncomputable def aMark (T : Tabs) (S : ASt) (src dst : TypeId) (x : Value) : EffRes :=
  match x with
  | .slice (some a) l c => match T.und src, T.und dst, Nat.beq src dst with
    | some (.slice _), some (.slice e), true => match T.und e with
      | some (.int .u8) => match S.mem.get a.block, Nat.blt a.block top with
        | some (.cells vs el es _), true => some (.slice (some a) l c, mset S a.block (.cells vs el es top))
        | _, _ => none
      | _ => none
    | _, _, _ => none
  | _ => none

theorem aMark_ok {N : Nat → Prop} (hT : T.Ok P) (h : Rep G E S w) {src dst : TypeId} {x x' r : Value} {S' : ASt} (he : aMark T S src dst x = some (r, S')) (hx : VR E x x') :
    ∃ r' w', (convert src dst x').run P w = .ok r' w' ∧ VR E r r' ∧ Post G N E S w E S' w' := by
  unfold aMark at he
  split at he
  case h_2 => cases he
  rename_i a l c
  cases hx with
  | @slice _ a' _ _ c' ha hc =>
  split at he
  case h_2 => cases he
  rename_i e0 e hus hud hsd
  have hus := hT.und _ _ hus
  have hud := hT.und _ _ hud
  have hsd := beq_t hsd
  split at he
  case h_2 => cases he
  rename_i hue
  have hue := hT.und _ _ hue
  split at he
  case h_2 => cases he
  rename_i vs el es fz hm ht
  have ht : a.block < top := by simpa [Nat.blt_eq] using ht
  cases he
  obtain ⟨s1, s2, i, hE, hblk, ho⟩ := ha
  obtain ⟨i2, o', g1, g2, g3, g30, c0, fr, rfl, g4, g5, g6, g7⟩ := h.obj _ _ hm
  rw [hE] at g1; cases g1
  have hsh : w.shape? a'.block = some (el, c0.size) := by unfold World.shape?; rw [hblk, g2]
  refine ⟨.slice (some a') l c', w.freeze { block := a'.block, off := c0.size } 1, ?_, .slice ⟨s1, s2, i, hE, hblk, ho⟩ hc, ?_⟩
  · subst hsd
    rw [hus] at hud; cases hud
    have e1 : (convert src src (.slice (some a') l c')).run P w = (do markStringish a'; pure (.slice (some a') l c') : Sem Value).run P w := by
      unfold convert
      simp [run_und hus, run_und hue]
    rw [e1]
    simp [markStringish, shape, Sem.run, hsh, freeze]
  · have hfz : (w.freeze { block := a'.block, off := c0.size } 1).heap = w.heap.modify i.c (fun
        | .cells c elem (lo, hi) => .cells c elem (if lo == hi then (c0.size, c0.size + 1) else (min lo c0.size, max hi (c0.size + 1)))
        | o => o) := by
      rw [← hblk]
      rfl
    have hobj : ∃ fr', ∀ k, (w.freeze { block := a'.block, off := c0.size } 1).heap[k]? = if k = i.c then some (.cells c0 el fr') else w.heap[k]? := by
      refine ⟨if fr.1 == fr.2 then (c0.size, c0.size + 1) else (min fr.1 c0.size, max fr.2 (c0.size + 1)), fun k => ?_⟩
      rw [hfz, Array.getElem?_modify]
      by_cases hk : i.c = k
      · subst hk
        rw [if_pos rfl, if_pos rfl, g2]
        rfl
      · rw [if_neg hk, if_neg (fun e => hk e.symm)]
    obtain ⟨fr', hh⟩ := hobj
    refine h.upd hm hE ht rfl rfl rfl (by rw [hfz]; simp) hh ⟨g3, g30, c0, fr', rfl, g4, g5, g6, fun k hk => absurd hk (Nat.lt_irrefl _)⟩

/-- A pointer seen as an unsafe one, and back. -/
noncomputable def aUnsafe (T : Tabs) (G : Glob) (S : ASt) (src dst : TypeId) (x : Value) : Option Value :=
  match x with
  | .pointer (some a) => match T.und src, T.und dst, mlook G S a.block with
    | some (.pointer t), some .unsafePointer, some (.cells vs _ _ _) => match T.info t, Nat.blt a.off vs.length with
      | some i, true => match Nat.beq i.size 0 with
        | true => none
        | false => some (.pointer (some a))
      | _, _ => none
    | some .unsafePointer, some (.pointer u), some (.cells vs el _ _) => match T.info u, T.info el, T.lies el u with
      | some i, some e, true => match Nat.beq i.size 0, Nat.ble e.size vs.length, Nat.beq a.off 0 with
        | false, true, true => some (.pointer (some a))
        | _, _, _ => none
      | _, _, _ => none
    | _, _, _ => none
  | _ => none

theorem aUnsafe_ok (hT : T.Ok P) (h : Rep G E S w) {src dst : TypeId} {x x' r : Value} (he : aUnsafe T G S src dst x = some r) (hx : VR E x x') :
    ∃ r', (convert src dst x').run P w = .ok r' w ∧ VR E r r' := by
  unfold aUnsafe at he
  split at he
  case h_2 => cases he
  rename_i a
  cases hx with
  | @ptr _ a' ha =>
  obtain ⟨s1, s2, i, hE, hblk, ho⟩ := ha
  split at he
  · rename_i t vs el es fz hus hud hm
    have hus := hT.und _ _ hus
    have hud := hT.und _ _ hud
    split at he
    case h_2 => cases he
    rename_i ti hti hlt
    have hti := hT.info _ _ hti
    have hlt : a.off < vs.length := by simpa [Nat.blt_eq] using hlt
    split at he
    case h_1 => cases he
    rename_i h0
    have h0 := beq_f h0
    cases he
    obtain ⟨i2, o', g1, g2, g3, g30, c0, fr, rfl, g4, g5, g6, g7⟩ := h.look hm
    rw [hE] at g1; cases g1
    refine ⟨.pointer (some a'), ?_, .ptr ⟨s1, s2, i, hE, hblk, ho⟩⟩
    have hsh : w.shape? a'.block = some (el, c0.size) := by simp [World.shape?, hblk, g2]
    have hn : ¬ (c0.size ≤ a'.off) := by omega
    simp [convert, run_und hus, run_und hud, Conv.unsafePointer, Conv.seenAt, viewAt, hsh, cellsIn, run_size hti, h0, hn]
  · rename_i u vs el es fz hus hud hm
    have hus := hT.und _ _ hus
    have hud := hT.und _ _ hud
    split at he
    case h_2 => cases he
    rename_i ti ei hti hei hl
    have hti := hT.info _ _ hti
    have hei := hT.info _ _ hei
    obtain ⟨⟨ei2, l1, l2⟩, l3⟩ := hT.lies _ _ hl
    rw [hei] at l1; cases l1
    split at he
    case h_2 => cases he
    rename_i h0 h1 h2
    have h0 := beq_f h0
    have h1 := Nat.le_of_ble_eq_true h1
    have h2 := beq_t h2
    cases he
    obtain ⟨i2, o', g1, g2, g3, g30, c0, fr, rfl, g4, g5, g6, g7⟩ := h.look hm
    rw [hE] at g1; cases g1
    refine ⟨.pointer (some a'), ?_, .ptr ⟨s1, s2, i, hE, hblk, ho⟩⟩
    have hsh : w.shape? a'.block = some (el, c0.size) := by simp [World.shape?, hblk, g2]
    have hoff : a'.off = 0 := by omega
    have hcell : P.cellsOf el = ei.size := by simp [Program.cellsOf, hei]
    have hlie : liesAt P P.depth el (c0.size / P.cellsOf el) a'.off u 1 = true := by
      rw [hoff]
      refine l3 _ ?_
      rw [hcell]
      exact Nat.div_pos (by omega) l2
    simp [convert, run_und hus, run_und hud, Conv.unsafePointer, Conv.seenAt, viewAt, hsh, variablesAt, run_program, run_size hti, h0, hlie]
  · cases he

/-- The operations that turn memory (or make some), and a few more. -/
noncomputable def aEff (T : Tabs) (G : Glob) (S : ASt) (nm : Nat) (ev : Operand → Option Value) (o : Oper) : Option (Option Value × ASt) :=
  match o.op with
  | .alloc t => match aAlloc T S nm t with
    | some (v, S') => some (some v, S')
    | none => none
  | .box t x => match ev x with
    | some v => match aBox T S nm t v with
      | some (v, S') => some (some v, S')
      | none => none
    | none => none
  | .build t ps => match evParts ev ps.toList with
    | some vs => match aBuild T t vs with
      | some v => some (some v, S)
      | none => none
    | none => none
  | .buildSlice t n ps => match evParts ev ps.toList with
    | some vs => match aBuildSlice T S nm t n vs with
      | some (v, S') => some (some v, S')
      | none => none
    | none => none
  | .makeSlice t l c => match ev l, ev c with
    | some a, some b => match aMakeSlice T S nm t a b with
      | some (v, S') => some (some v, S')
      | none => none
    | _, _ => none
  | .makeMap _ r => match evO ev r with
    | some r => match aMakeMap S nm r with
      | some (v, S') => some (some v, S')
      | none => none
    | none => none
  | .store t a x => match ev a, ev x with
    | some p, some v => match aStore T S t p v with
      | some S' => some (none, S')
      | none => none
    | _, _ => none
  | .mapUpdate t m k x | .insert t m k x => match ev m, ev k, ev x with
    | some m, some k, some v => match aMapUpdate T S t m k v with
      | some S' => some (none, S')
      | none => none
    | _, _, _ => none
  | .range t x => match ev x with
    | some v => match aRange T G S nm t v with
      | some (v, S') => some (some v, S')
      | none => none
    | none => none
  | .next it b => match ev it with
    | some v => match aNext G S v b with
      | some (v, S') => some (some v, S')
      | none => match aNextN G S v b with
        | some (v, S') => some (some v, S')
        | none => none
    | none => none
  | .entry it => match ev it with
    | some v => match aEntry G S v with
      | some v => some (some v, S)
      | none => match aEntryN G S v with
        | some v => some (some v, S)
        | none => none
    | none => none
  | .convert src dst x => match ev x with
    | some (.string s) => match aS2B T S nm src dst s with
      | some (v, S') => some (some v, S')
      | none => none
    | some v => match aMark T S src dst v with
      | some (v, S') => some (some v, S')
      | none => match aUnsafe T G S src dst v with
        | some v => some (some v, S)
        | none => none
    | none => none
  | .call c => match c.callee, evA ev c.args with
    | .builtin .append, some xs => match xs[0]?, xs[1]?, Nat.beq xs.size 2 with
      | some s, some x, true => match aAppend T G S nm c.argTypes s x with
        | some (v, S') => some (some v, S')
        | none => none
      | _, _, _ => none
    | .builtin .copy, some xs => match xs[0]?, xs[1]?, Nat.beq xs.size 2 with
      | some s, some x, true => match aCopy T G S c.argTypes s x with
        | some (v, S') => some (some v, S')
        | none => none
      | _, _, _ => none
    | .builtin .clear, some xs => match xs[0]?, c.argTypes[0]? with
      | some x, some t => match aClear T S t x with
        | some (v, S') => some (some v, S')
        | none => match aClearS T S t x with
          | some (v, S') => some (some v, S')
          | none => none
      | _, _ => none
    | .builtin .unsafeString, some xs => match xs[0]?, xs[1]?, Nat.beq xs.size 2 with
      | some p, some n, true => match aStr T S c.argTypes p n with
        | some (v, S') => some (some v, S')
        | none => none
      | _, _, _ => none
    | _, _ => none
  | _ => none

/-- What the machine goes on with. -/
inductive NxR (E : Env) : Option Value → Next → Prop
  | value {v v' : Value} (h : VR E v v') : NxR E (some v) (.value v')
  | skip : NxR E none .skip

theorem EffOk.next {nm : Nat} {s : Sem Value} {r : Value} {S' : ASt} (h : EffOk P G E S w nm s r S') {q : Sem Next} (hq : ∀ r' w', s.run P w = .ok r' w' → q.run P w = .ok (.value r') w') :
    ∃ E' nx w', q.run P w = .ok nx w' ∧ NxR E' (some r) nx ∧ Post G (· = nm) E S w E' S' w' := by
  obtain ⟨E', r', w', h1, h2, h3⟩ := h
  exact ⟨E', _, w', hq _ _ h1, .value h2, h3⟩

theorem run_v' {s : Sem Value} {v : Value} {w' : World} (h : s.run P w = .ok v w') : ((do pure (.value (← s)) : Sem Next)).run P w = .ok (.value v) w' := by simp [h]
theorem run_u' {s : Sem Unit} {w' : World} (h : s.run P w = .ok () w') : ((do s; pure .skip : Sem Next)).run P w = .ok .skip w' := by simp [h]

theorem aEff_ok (hT : T.Ok P) (h : Rep G E S w) {nm : Nat} {ev : Operand → Option Value} {ρ : Operand → Value} (hev : EvR E ev ρ) {o : Oper} {r : Option Value} {S' : ASt} (he : aEff T G S nm ev o = some (r, S')) (hn : E nm = none) (hc : nm < S.ctr) :
    ∃ E' nx w', (execOp ρ o).run P w = .ok nx w' ∧ NxR E' r nx ∧ Post G (· = nm) E S w E' S' w' := by
  unfold aEff at he
  split at he
  · rename_i t ho
    split at he
    case h_2 => cases he
    rename_i e; cases he
    exact (aAlloc_ok hT h e hn hc).next (fun r' w' hr => by simp only [execOp, ho]; exact run_v' hr)
  · rename_i t x ho
    split at he
    case h_2 => cases he
    split at he
    case h_2 => cases he
    rename_i e; cases he
    exact (aBox_ok h e hn hc (hev _ _ ‹_›)).next (fun r' w' hr => by simp only [execOp, ho]; exact run_v' hr)
  · rename_i t ps ho
    split at he
    case h_2 => cases he
    rename_i vs hvs
    split at he
    case h_2 => cases he
    rename_i e; cases he
    have hp := evParts_ok hev hvs
    obtain ⟨r', h1, h2⟩ := aBuild_ok (P := P) (w := w) (ps' := ps.map fun p => (p.1, ρ p.2)) hT e (by simpa using hp)
    exact ⟨E, _, w, by simp only [execOp, ho]; exact run_v' h1, .value h2, Post.refl h⟩
  · rename_i t n ps ho
    split at he
    case h_2 => cases he
    rename_i vs hvs
    split at he
    case h_2 => cases he
    rename_i e; cases he
    have hp := evParts_ok hev hvs
    exact (aBuildSlice_ok (ps' := ps.map fun p => (p.1, ρ p.2)) hT h e hn hc (by simpa using hp)).next (fun r' w' hr => by simp only [execOp, ho]; exact run_v' hr)
  · rename_i t l c ho
    split at he
    case h_2 => cases he
    split at he
    case h_2 => cases he
    rename_i e; cases he
    exact (aMakeSlice_ok hT h e hn hc (hev _ _ ‹_›) (hev _ _ ‹_›)).next (fun r' w' hr => by simp only [execOp, ho]; exact run_v' hr)
  · rename_i t r ho
    split at he
    case h_2 => cases he
    rename_i r0 hr0
    split at he
    case h_2 => cases he
    rename_i e; cases he
    exact (aMakeMap_ok (t := t) h e hn hc (evO_ok hev hr0)).next (fun r' w' hr => by simp only [execOp, ho]; exact run_v' hr)
  · rename_i t a x ho
    split at he
    case h_2 => cases he
    split at he
    case h_2 => cases he
    rename_i e; cases he
    obtain ⟨w', h1, h2⟩ := aStore_ok (P := P) (N := (· = nm)) hT h e (hev _ _ ‹_›) (hev _ _ ‹_›)
    exact ⟨E, _, w', by simp only [execOp, ho]; exact run_u' h1, .skip, h2⟩
  · rename_i t m k x ho
    split at he
    case h_2 => cases he
    split at he
    case h_2 => cases he
    rename_i e; cases he
    obtain ⟨w', h1, h2⟩ := aMapUpdate_ok (P := P) (N := (· = nm)) hT h e (hev _ _ ‹_›) (hev _ _ ‹_›) (hev _ _ ‹_›)
    exact ⟨E, _, w', by simp only [execOp, ho]; exact run_u' h1, .skip, h2⟩
  · rename_i t m k x ho
    split at he
    case h_2 => cases he
    split at he
    case h_2 => cases he
    rename_i e; cases he
    obtain ⟨w', h1, h2⟩ := aMapUpdate_ok (P := P) (N := (· = nm)) hT h e (hev _ _ ‹_›) (hev _ _ ‹_›) (hev _ _ ‹_›)
    exact ⟨E, _, w', by simp only [execOp, ho]; exact run_u' h1, .skip, h2⟩
  · rename_i t x ho
    split at he
    case h_2 => cases he
    split at he
    case h_2 => cases he
    rename_i e; cases he
    exact (aRange_ok hT h e hn hc (hev _ _ ‹_›)).next (fun r' w' hr => by simp only [execOp, ho]; exact run_v' hr)
  · rename_i it b ho
    split at he
    case h_2 => cases he
    split at he
    · rename_i e; cases he
      obtain ⟨r', w', h1, h2, h3⟩ := aNext_ok (P := P) (N := (· = nm)) (t := o.type) h e (hev _ _ ‹_›)
      exact ⟨E, _, w', by simp only [execOp, ho]; exact run_v' h1, .value h2, h3⟩
    · split at he
      case h_2 => cases he
      rename_i e; cases he
      obtain ⟨r', w', h1, h2, h3⟩ := aNextN_ok (P := P) (N := (· = nm)) (t := o.type) h e (hev _ _ ‹_›)
      exact ⟨E, _, w', by simp only [execOp, ho]; exact run_v' h1, .value h2, h3⟩
  · rename_i it ho
    split at he
    case h_2 => cases he
    split at he
    · rename_i e; cases he
      obtain ⟨r', h1, h2⟩ := aEntry_ok (P := P) h e (hev _ _ ‹_›)
      exact ⟨E, _, w, by simp only [execOp, ho]; exact run_v' h1, .value h2, Post.refl h⟩
    · split at he
      case h_2 => cases he
      rename_i e; cases he
      obtain ⟨r', h1, h2⟩ := aEntryN_ok (P := P) h e (hev _ _ ‹_›)
      exact ⟨E, _, w, by simp only [execOp, ho]; exact run_v' h1, .value h2, Post.refl h⟩
  · rename_i src dst x ho
    split at he
    case h_3 => cases he
    case h_1 s hx =>
      split at he
      case h_2 => cases he
      rename_i e; cases he
      have hv := hev _ _ hx
      generalize hρ : ρ x = u at hv
      cases hv
      exact (aS2B_ok (P := P) hT h e hn hc).next (fun r' w' hr => by simp only [execOp, ho, hρ]; exact run_v' hr)
    split at he
    · rename_i e; cases he
      obtain ⟨r', w', h1, h2, h3⟩ := aMark_ok (P := P) (N := (· = nm)) hT h e (hev _ _ ‹_›)
      exact ⟨E, _, w', by simp only [execOp, ho]; exact run_v' h1, .value h2, h3⟩
    · split at he
      case h_2 => cases he
      rename_i e; cases he
      obtain ⟨r', h1, h2⟩ := aUnsafe_ok (P := P) hT h e (hev _ _ ‹_›)
      exact ⟨E, _, w, by simp only [execOp, ho]; exact run_v' h1, .value h2, Post.refl h⟩
  · rename_i c ho
    split at he
    · rename_i xs hb hxs
      have hx := evA_ok hev hxs
      split at he
      case h_2 => cases he
      rename_i s x h0 h1 h2
      have h2 := beq_t h2
      split at he
      case h_2 => cases he
      rename_i e; cases he
      obtain ⟨s', p1, p2⟩ := hx.at_some h0
      obtain ⟨x', q1, q2⟩ := hx.at_some h1
      have hargs : c.args.map ρ = #[s', x'] := arr2 (by rw [← hx.1, h2]) p1 q1
      exact (aAppend_ok (ty := o.type) hT h e hn hc p2 q2).next (fun r' w' hr => by
        simp only [execOp, ho, resolve, hb, Sem.run_bind, Sem.run_pure, Result.andThen_ok, invoke, hargs, builtin]
        rw [hr]; rfl)
    · rename_i xs hb hxs
      have hx := evA_ok hev hxs
      split at he
      case h_2 => cases he
      rename_i s x h0 h1 h2
      have h2 := beq_t h2
      split at he
      case h_2 => cases he
      rename_i e; cases he
      obtain ⟨s', p1, p2⟩ := hx.at_some h0
      obtain ⟨x', q1, q2⟩ := hx.at_some h1
      have hargs : c.args.map ρ = #[s', x'] := arr2 (by rw [← hx.1, h2]) p1 q1
      obtain ⟨w', k1, k2, k3⟩ := aCopy_ok (P := P) (N := (· = nm)) (ty := o.type) hT h e p2 q2
      refine ⟨E, _, w', ?_, .value k2, k3⟩
      simp only [execOp, ho, resolve, hb, Sem.run_bind, Sem.run_pure, Result.andThen_ok, invoke, hargs, builtin]
      rw [k1]; rfl
    · rename_i xs hb hxs
      have hx := evA_ok hev hxs
      split at he
      case h_2 => cases he
      rename_i x t h0 h1
      obtain ⟨x', q1, q2⟩ := hx.at_some h0
      split at he
      · rename_i e; cases he
        obtain ⟨w', k1, k2, k3⟩ := aClear_ok (P := P) (N := (· = nm)) (ty := o.type) hT h e q2 h1 q1
        refine ⟨E, _, w', ?_, .value k2, k3⟩
        simp only [execOp, ho, resolve, hb, Sem.run_bind, Sem.run_pure, Result.andThen_ok, invoke, builtin]
        rw [k1]; rfl
      · split at he
        case h_2 => cases he
        rename_i e; cases he
        obtain ⟨w', k1, k2, k3⟩ := aClearS_ok (P := P) (N := (· = nm)) (ty := o.type) hT h e q2 h1 q1
        refine ⟨E, _, w', ?_, .value k2, k3⟩
        simp only [execOp, ho, resolve, hb, Sem.run_bind, Sem.run_pure, Result.andThen_ok, invoke, builtin]
        rw [k1]; rfl
    · rename_i xs hb hxs
      have hx := evA_ok hev hxs
      split at he
      case h_2 => cases he
      rename_i s x h0 h1 h2
      have h2 := beq_t h2
      split at he
      case h_2 => cases he
      rename_i e; cases he
      obtain ⟨s', p1, p2⟩ := hx.at_some h0
      obtain ⟨x', q1, q2⟩ := hx.at_some h1
      have hargs : c.args.map ρ = #[s', x'] := arr2 (by rw [← hx.1, h2]) p1 q1
      obtain ⟨w', k1, k2, k3⟩ := aStr_ok (P := P) (N := (· = nm)) (ty := o.type) hT h e p2 q2
      refine ⟨E, _, w', ?_, .value k2, k3⟩
      simp only [execOp, ho, resolve, hb, Sem.run_bind, Sem.run_pure, Result.andThen_ok, invoke, hargs, builtin]
      rw [k1]; rfl
    · cases he
  · cases he
end Go.Ax
namespace Go.Ax

inductive ADef where
  | mark (r : Nat)
  | call (fn : Fn) (cap args : Array Value)

structure AAct where
  tmps : Tr Value
  n : Nat
  defers : List ADef

inductive AX where
  | normal
  | exit (id : Nat)
  | goto (l : Nat)
  | ret

inductive Cmd where
  | code (ro : Option Nat) (c : Code)
  | loop (ro : Option Nat) (c : Code)
  | ops (ro : Option Nat) (ops : Array Oper) (l : List Oper)
  | call (f : FuncId) (args : Array Value)
  | callD (f : FuncId) (args : Array Value)
  | leave (fn : Func) (ds : List ADef)
  | codeS (c : Code)
  | opsS (ops : Array Oper) (l : List Oper)

inductive Res where
  | exit (x : AX) (A : AAct) (S : ASt)
  | val (v : Value) (S : ASt)

/-- What the evaluator is told of the program. -/
structure XT where
  T : Tabs
  G : Glob
  fn : FuncId → Option Func
  ext : FuncId → Array Value → Option Value
  orc : FuncId → Array Value → ASt → Option (Value × ASt)

abbrev Rec := Cmd → AAct → ASt → Option Res

/-! small bodies: what the kernel copies at each step -/
noncomputable def oB {α β : Type} (x : Option α) (f : α → Option β) : Option β := Option.rec (motive := fun _ => Option β) none f x
noncomputable def oT {β : Type} (b : Bool) (x : Option β) : Option β := Bool.rec (motive := fun _ => Option β) none x b
noncomputable def oI {β : Type} (b : Bool) (x y : Option β) : Option β := Bool.rec (motive := fun _ => Option β) y x b
noncomputable def oE {α β : Type} (x : Option α) (y : Option β) (f : α → Option β) : Option β := Option.rec (motive := fun _ => Option β) y f x
noncomputable def oP {α β γ : Type} (x : Option (α × β)) (f : α → β → Option γ) : Option γ := Option.rec (motive := fun _ => Option γ) none (fun p => Prod.rec (motive := fun _ => Option γ) f p) x
noncomputable def bump {α : Type} (c : Nat) (f : Nat → α) : α := Nat.rec (motive := fun _ => α) (f 1) (fun k _ => f (Nat.succ (Nat.succ k))) c
/-- The number is computed first. -/
noncomputable def force {α : Type} (c : Nat) (f : Nat → α) : α := Nat.rec (motive := fun _ => α) (f 0) (fun k _ => f (Nat.succ k)) c
noncomputable def onS {β : Type} (S : ASt) (f : Tr AObj → Nat → β) : β := ASt.rec (motive := fun _ => β) f S
noncomputable def onA {β : Type} (A : AAct) (f : Tr Value → Nat → List ADef → β) : β := AAct.rec (motive := fun _ => β) f A
noncomputable def orU (x : Option Value) : Value := Option.rec (motive := fun _ => Value) undef (fun v => v) x

theorem bump_eq {α : Type} (c : Nat) (f : Nat → α) : bump c f = f (c + 1) := by cases c <;> rfl
theorem force_eq {α : Type} (c : Nat) (f : Nat → α) : force c f = f c := by cases c <;> rfl
theorem onS_eq {β : Type} (S : ASt) (f : Tr AObj → Nat → β) : onS S f = f S.mem S.ctr := rfl
theorem onA_eq {β : Type} (A : AAct) (f : Tr Value → Nat → List ADef → β) : onA A f = f A.tmps A.n A.defers := rfl
theorem orU_eq (x : Option Value) : orU x = x.getD undef := by cases x <;> rfl


theorem oB_some {α β : Type} {x : Option α} {f : α → Option β} {r : β} (h : oB x f = some r) : ∃ a, x = some a ∧ f a = some r := by
  cases x with
  | none => cases h
  | some a => exact ⟨a, rfl, h⟩
theorem oP_some {α β γ : Type} {x : Option (α × β)} {f : α → β → Option γ} {r : γ} (h : oP x f = some r) : ∃ a b, x = some (a, b) ∧ f a b = some r := by
  cases x with
  | none => cases h
  | some p => exact ⟨p.1, p.2, rfl, h⟩
theorem oT_some {β : Type} {b : Bool} {x : Option β} {r : β} (h : oT b x = some r) : b = true ∧ x = some r := by
  cases b with
  | false => cases h
  | true => exact ⟨rfl, h⟩
theorem oI_some {β : Type} {b : Bool} {x y : Option β} {r : β} (h : oI b x y = some r) : (b = true ∧ x = some r) ∨ (b = false ∧ y = some r) := by
  cases b with
  | false => exact .inr ⟨rfl, h⟩
  | true => exact .inl ⟨rfl, h⟩
theorem oE_some {α β : Type} {x : Option α} {y : Option β} {f : α → Option β} {r : β} (h : oE x y f = some r) : (x = none ∧ y = some r) ∨ ∃ a, x = some a ∧ f a = some r := by
  cases x with
  | none => exact .inl ⟨rfl, h⟩
  | some a => exact .inr ⟨a, rfl, h⟩

noncomputable def aev (G : Glob) (A : AAct) : Operand → Option Value
  | .tmp t => some (orU (A.tmps.get t))
  | .const v => oT (closedV 4 v) (some v)
  | .global g => oB (G g) fun _ => some (.pointer (some ⟨g, 0, none⟩))
  | .func f => some (.func (.func f) #[] #[])

noncomputable def aput (A : AAct) (dst : Option Tmp) (v : Value) : Option AAct :=
  match dst with
  | none => some A
  | some d => onA A fun t n ds => oT (Nat.ble (Nat.succ d) n) (some ⟨t.set fuelTr d (some v), n, ds⟩)

noncomputable def aputs : List Tmp → List Value → AAct → Option AAct
  | [], [], A => some A
  | t :: ts, v :: vs, A => oB (aput A (some t) v) (aputs ts vs)
  | _, _, _ => none

noncomputable def appL : List Value → List Value → List Value
  | [], l => l
  | x :: xs, l => x :: appL xs l

noncomputable def cat3 (a b c : Array Value) : Array Value :=
  match a.toList, c.toList with
  | [], [] => b
  | x, y => (appL x (appL b.toList y)).toArray

noncomputable def argsTr : List Value → Nat → Tr Value → Tr Value
  | [], _, t => t
  | v :: vs, k, t => argsTr vs (k + 1) (t.set fuelTr k (some v))

noncomputable def nth {α : Type} : List α → Nat → Option α
  | [], _ => none
  | x :: l, k => Nat.casesOn (motive := fun _ => Option α) k (some x) (fun j => nth l j)

noncomputable def aYielded (ops : Array Oper) (A : AAct) (j : Nat) : Option Bool :=
  oB (nth ops.toList j) fun o => oB o.dst fun d => match orU (A.tmps.get d) with
    | .bool b => some b
    | _ => none

noncomputable def eqB (a b : Bool) : Bool := Bool.casesOn (motive := fun _ => Bool) a (Bool.casesOn (motive := fun _ => Bool) b true false) b

/-- Is the operation carried out? ('none': it cannot be seen.) -/
noncomputable def aWanted (ops : Array Oper) (A : AAct) (o : Oper) : Bool :=
  match o.guard with
  | none => true
  | some (j, want) => match aYielded ops A j with
    | some b => eqB b want
    | none => false

noncomputable def act0 : AAct := ⟨.nil, 0, []⟩

noncomputable def setLoop (S : ASt) (l : Nat) (st : LoopState) (p : Option Code) : Option ASt :=
  match S.mem.get l with
  | some (.loop _ _ n t ps as b d) => some (mset S l (.loop st p n t ps as b d))
  | _ => none

noncomputable def setBusy (S : ASt) (l : Nat) : Option ASt :=
  match S.mem.get l with
  | some (.loop .ready p n t ps as b d) => some (mset S l (.loop .busy p n t ps as b d))
  | _ => none

/-- How a round ends. -/
noncomputable def aRoundEnd (l : Nat) (x : AX) (S : ASt) : Option (Value × ASt) :=
  match x with
  | .normal => oB (setLoop S l .ready none) fun S4 => some (.bool true, S4)
  | .ret => oB (setLoop S l .done (some .ret)) fun S4 => some (.bool false, S4)
  | .exit id => oB (setLoop S l .done (some (.exit id))) fun S4 => some (.bool false, S4)
  | .goto _ => none

/-- What the run of a piece of code gives. -/
noncomputable def oX {β : Type} (r : Option Res) (f : AX → AAct → ASt → Option β) : Option β :=
  match r with
  | some (.exit x A S) => f x A S
  | _ => none
noncomputable def oV {β : Type} (r : Option Res) (f : Value → ASt → Option β) : Option β :=
  match r with
  | some (.val v S) => f v S
  | _ => none
/-- On its plain end; else the end itself. -/
noncomputable def oN (r : Option Res) (f : AAct → ASt → Option Res) : Option Res :=
  match r with
  | some (.exit x A S) => match x with
    | .normal => f A S
    | x => some (.exit x A S)
  | _ => none
/-- On its plain end alone. -/
noncomputable def oN' {β : Type} (r : Option Res) (f : AAct → ASt → Option β) : Option β :=
  match r with
  | some (.exit x A S) => match x with
    | .normal => f A S
    | _ => none
  | _ => none
/-- On the end of a function's body. -/
noncomputable def oR (r : Option Res) (f : AAct → ASt → Option Res) : Option Res :=
  match r with
  | some (.exit x A S) => match x with
    | .normal => f A S
    | .ret => f A S
    | _ => none
  | _ => none

theorem oX_some {β : Type} {r : Option Res} {f : AX → AAct → ASt → Option β} {u : β} (h : oX r f = some u) : ∃ x A S, r = some (.exit x A S) ∧ f x A S = some u := by
  unfold oX at h; split at h
  · exact ⟨_, _, _, rfl, h⟩
  · cases h
theorem oV_some {β : Type} {r : Option Res} {f : Value → ASt → Option β} {u : β} (h : oV r f = some u) : ∃ v S, r = some (.val v S) ∧ f v S = some u := by
  unfold oV at h; split at h
  · exact ⟨_, _, rfl, h⟩
  · cases h
theorem oN_some {r : Option Res} {f : AAct → ASt → Option Res} {u : Res} (h : oN r f = some u) : (∃ A S, r = some (.exit .normal A S) ∧ f A S = some u) ∨ ∃ x A S, r = some (.exit x A S) ∧ x ≠ .normal ∧ u = .exit x A S := by
  unfold oN at h; split at h
  · rename_i x A S
    cases x with
    | normal => exact .inl ⟨_, _, rfl, h⟩
    | _ => cases h; exact .inr ⟨_, _, _, rfl, by simp, rfl⟩
  · cases h
theorem oN'_some {β : Type} {r : Option Res} {f : AAct → ASt → Option β} {u : β} (h : oN' r f = some u) : ∃ A S, r = some (.exit .normal A S) ∧ f A S = some u := by
  unfold oN' at h; split at h
  · rename_i x A S
    cases x with
    | normal => exact ⟨_, _, rfl, h⟩
    | _ => cases h
  · cases h
theorem oR_some {r : Option Res} {f : AAct → ASt → Option Res} {u : Res} (h : oR r f = some u) : ∃ x A S, r = some (.exit x A S) ∧ (x = .normal ∨ x = .ret) ∧ f A S = some u := by
  unfold oR at h; split at h
  · rename_i x A S
    cases x with
    | normal => exact ⟨_, _, _, rfl, .inl rfl, h⟩
    | ret => exact ⟨_, _, _, rfl, .inr rfl, h⟩
    | _ => cases h
  · cases h

/-- A round of a range over a function. -/
noncomputable def aRound (rec : Rec) (l : Nat) (args : Array Value) (S : ASt) : Option (Value × ASt) :=
  match S.mem.get l with
  | some (.loop .ready _ n tmps params assign body _) =>
    oT (Nat.blt l top) <| oT (Nat.ble n top) <| oB (aputs params.toList args.toList ⟨tmps, n, []⟩) fun A0 =>
    oN' (rec (.code (some l) assign) A0 S) fun A1 S1 => oB (setBusy S1 l) fun S2 =>
    oX (rec (.code (some l) body) A1 S2) fun x _ S3 => aRoundEnd l x S3
  | _ => none

/-- A call of a function of the program. -/
noncomputable def aCallF (X : XT) (rec : Rec) (k : FuncId) (all : Array Value) (S : ASt) : Option (Value × ASt) :=
  oE (X.ext k all) (oE (X.orc k all S) (oV (rec (.call k all) act0 S) fun v S' => some (v, S')) some) fun v => some (v, S)

/-- A call of a function value. -/
noncomputable def aCallV (X : XT) (rec : Rec) (f : Value) (args : Array Value) (S : ASt) : Option (Value × ASt) :=
  match f with
  | .func (.func k) first cap => aCallF X rec k (cat3 first args cap) S
  | .func (.yield l) first cap => oT (first.isEmpty && cap.isEmpty) (aRound rec l args S)
  | _ => none

inductive OpK where
  | call (f : Operand) (args : Array Operand)
  | defer (f : Operand) (args : Array Operand)
  | plain

noncomputable def opKind (o : Oper) : OpK :=
  match o.op with
  | .call c => match c.callee with
    | .value f => .call f c.args
    | _ => .plain
  | .defer c => match c.callee with
    | .value f => .defer f c.args
    | _ => .plain
  | _ => .plain

noncomputable def isS2B (T : Tabs) (s d : TypeId) : Bool :=
  match T.und s, T.und d with
  | some .string, some (.slice _) => true
  | _, _ => false

noncomputable def makes (T : Tabs) (o : Oper) : Bool :=
  match o.op with
  | .convert s d _ => isS2B T s d
  | .alloc _ | .box .. | .build .. | .buildSlice .. | .makeSlice .. | .makeMap .. => true
  | _ => false

/-- What an operation yields, and leaves. -/
noncomputable def aVal (X : XT) (rec : Rec) (nm : Nat) (ev : Operand → Option Value) (o : Oper) (S : ASt) : Option (Value × ASt) :=
  match opKind o with
  | .call f args => oB (ev f) fun fv => oB (evA ev args) fun vs => aCallV X rec fv vs S
  | .defer _ _ => none
  | .plain => match makes X.T o with
    | false => match aRead X.T X.G S ev o with
      | some v => some (v, S)
      | none => match aEff X.T X.G S nm ev o with
        | some (some v, S') => some (v, S')
        | some (none, S') => some (undef, S')
        | none => none
    | true => match aEff X.T X.G S nm ev o with
      | some (some v, S') => some (v, S')
      | _ => none

/-- A read, made ready: of an operation of the program's text it is computed once. -/
inductive RBox where
  | mk (f : Tabs → Glob → ASt → (Operand → Option Value) → Option Value)

noncomputable def rMove (x : Operand) (_ : Tabs) (_ : Glob) (_ : ASt) (ev : Operand → Option Value) : Option Value := ev x
noncomputable def rLoad (t : TypeId) (a : Operand) (T : Tabs) (G : Glob) (S : ASt) (ev : Operand → Option Value) : Option Value := oB (ev a) fun v => aLoad T G S t v
noncomputable def rNil (x : Operand) (_ : Tabs) (_ : Glob) (_ : ASt) (ev : Operand → Option Value) : Option Value := oB (ev x) aNil
noncomputable def rBin (op : BinOp) (t : TypeId) (x y : Operand) (T : Tabs) (_ : Glob) (_ : ASt) (ev : Operand → Option Value) : Option Value := oB (ev x) fun a => oB (ev y) fun b => aBinV T op t x y a b
noncomputable def rFieldAddr (t : TypeId) (x : Operand) (f : Nat) (T : Tabs) (_ : Glob) (_ : ASt) (ev : Operand → Option Value) : Option Value := oB (ev x) fun v => aFieldAddr T t v f
noncomputable def rField (t : TypeId) (x : Operand) (f : Nat) (T : Tabs) (_ : Glob) (_ : ASt) (ev : Operand → Option Value) : Option Value := oB (ev x) fun v => aField T t v f
noncomputable def rIndexAddr (t : TypeId) (x i : Operand) (T : Tabs) (_ : Glob) (_ : ASt) (ev : Operand → Option Value) : Option Value := oB (ev x) fun v => oB (ev i) fun n => aIndexAddr T t v n
noncomputable def rIndex (t : TypeId) (x i : Operand) (T : Tabs) (_ : Glob) (_ : ASt) (ev : Operand → Option Value) : Option Value := oB (ev x) fun v => oB (ev i) fun n => aIndex T t v n
noncomputable def rExtract (x : Operand) (i : Nat) (_ : Tabs) (_ : Glob) (_ : ASt) (ev : Operand → Option Value) : Option Value := oB (ev x) fun v => aExtract v i
noncomputable def rRest (o : Oper) (T : Tabs) (G : Glob) (S : ASt) (ev : Operand → Option Value) : Option Value := aRead T G S ev o

noncomputable def rOf (o : Oper) : RBox :=
  match o.op with
  | .move x => ⟨rMove x⟩
  | .assign x => ⟨rMove x⟩
  | .load t a => ⟨rLoad t a⟩
  | .nilCheck x => ⟨rNil x⟩
  | .binOp op t x y _ => ⟨rBin op t x y⟩
  | .fieldAddr t x f => ⟨rFieldAddr t x f⟩
  | .field t x f => ⟨rField t x f⟩
  | .indexAddr t x i => ⟨rIndexAddr t x i⟩
  | .index t x i => ⟨rIndex t x i⟩
  | .extract x i => ⟨rExtract x i⟩
  | _ => ⟨rRest o⟩

noncomputable def aReadF (T : Tabs) (G : Glob) (S : ASt) (ev : Operand → Option Value) (o : Oper) : Option Value :=
  match rOf o with
  | ⟨f⟩ => f T G S ev

/-- An operation, made ready. -/
inductive HBox where
  | mk (f : XT → Rec → Nat → (Operand → Option Value) → ASt → Option (Value × ASt))

noncomputable def hRead (f : Tabs → Glob → ASt → (Operand → Option Value) → Option Value) (X : XT) (_ : Rec) (_ : Nat) (ev : Operand → Option Value) (S : ASt) : Option (Value × ASt) := oB (f X.T X.G S ev) fun r => some (r, S)
noncomputable def hStore (t : TypeId) (a x : Operand) (X : XT) (_ : Rec) (_ : Nat) (ev : Operand → Option Value) (S : ASt) : Option (Value × ASt) := oB (ev a) fun v => oB (ev x) fun u => oB (aStore X.T S t v u) fun S' => some (undef, S')
noncomputable def hCall (f : Operand) (args : Array Operand) (X : XT) (rec : Rec) (_ : Nat) (ev : Operand → Option Value) (S : ASt) : Option (Value × ASt) := oB (ev f) fun fv => oB (evA ev args) fun vs => aCallV X rec fv vs S
noncomputable def hRest (o : Oper) (X : XT) (rec : Rec) (nm : Nat) (ev : Operand → Option Value) (S : ASt) : Option (Value × ASt) := aVal X rec nm ev o S

noncomputable def hOf (o : Oper) : HBox :=
  match o.op with
  | .move x => ⟨hRead (rMove x)⟩
  | .assign x => ⟨hRead (rMove x)⟩
  | .load t a => ⟨hRead (rLoad t a)⟩
  | .nilCheck x => ⟨hRead (rNil x)⟩
  | .binOp op t x y _ => ⟨hRead (rBin op t x y)⟩
  | .fieldAddr t x f => ⟨hRead (rFieldAddr t x f)⟩
  | .field t x f => ⟨hRead (rField t x f)⟩
  | .indexAddr t x i => ⟨hRead (rIndexAddr t x i)⟩
  | .index t x i => ⟨hRead (rIndex t x i)⟩
  | .extract x i => ⟨hRead (rExtract x i)⟩
  | .store t a x => ⟨hStore t a x⟩
  | .call c => match c.callee with
    | .value f => ⟨hCall f c.args⟩
    | _ => ⟨hRest o⟩
  | _ => ⟨hRest o⟩

/-- The same as 'aVal'. -/
noncomputable def aValF (X : XT) (rec : Rec) (nm : Nat) (ev : Operand → Option Value) (o : Oper) (S : ASt) : Option (Value × ASt) :=
  match hOf o with
  | ⟨f⟩ => f X rec nm ev S

/-- A call put off. -/
noncomputable def aDefer (X : XT) (ro : Option Nat) (o : Oper) (f : Operand) (args : Array Operand) (A : AAct) (S : ASt) : Option (AAct × ASt) :=
  match ro, aev X.G A f, evA (aev X.G A) args with
  | none, some (.func (.func k) first cap), some vs => match A with
    | ⟨t, n, ds⟩ => oB (aput ⟨t, n, .call (.func k) cap (cat3 first vs #[]) :: ds⟩ o.dst undef) fun A' => some (A', S)
  | _, _, _ => none

/-- One operation, carried out in its place. -/
noncomputable def aOp (X : XT) (rec : Rec) (ro : Option Nat) (nm : Nat) (o : Oper) (A : AAct) (S : ASt) : Option (AAct × ASt) :=
  match opKind o with
  | .defer f args => aDefer X ro o f args A S
  | _ => oP (aValF X rec nm (aev X.G A) o S) fun v S' => oB (aput A o.dst v) fun A' => some (A', S')

/-! ### regions that draw their order -/
noncomputable def isMark (T : Tabs) (s d : TypeId) : Bool :=
  match T.und s, T.und d with
  | some (.slice _), some (.slice _) => true
  | _, _ => false

noncomputable def isE (T : Tabs) (o : Oper) : Bool :=
  match o.op with
  | .convert s d _ => isMark T s d
  | .store .. | .mapUpdate .. | .insert .. | .range .. | .next .. | .entry .. | .mapEntry .. | .entryStore .. | .defer .. | .panic .. => true
  | .call c => match c.callee with
    | .builtin .len | .builtin .cap | .builtin .min | .builtin .max => false
    | _ => true
  | _ => false

/-- What must come before an operation. -/
noncomputable def ownMask (acc : List Nat) : List Edge → Nat
  | [] => 0
  | e :: es => match Region.binds .any e with
    | true => Nat.lor (Nat.lor (ownMask acc es) (2 ^ e.on)) ((nth acc e.on).getD 0)
    | false => ownMask acc es

noncomputable def masksGo : List Oper → List Nat → List Nat
  | [], acc => acc
  | o :: os, acc => masksGo os (acc ++ [ownMask acc o.after.toList])

noncomputable def tmpsOf : List Operand → List Tmp
  | [] => []
  | .tmp t :: l => t :: tmpsOf l
  | _ :: l => tmpsOf l

noncomputable def guardTmp (ops : Array Oper) (o : Oper) : List Tmp :=
  match o.guard with
  | some (g, _) => match nth ops.toList g with
    | some p => p.dst.toList
    | none => []
  | none => []

noncomputable def namesOf (ops : Array Oper) (o : Oper) : List Tmp := o.dst.toList ++ (tmpsOf o.op.operands.toList ++ guardTmp ops o)

noncomputable def hits (d : Option Tmp) (l : List Tmp) : Bool :=
  match d with
  | none => false
  | some t => l.any (Nat.beq t)

/-- The effects stand in one order; whoever names a temporary that another writes stands in order with it. -/
noncomputable def drawOk (T : Tabs) (ops : Array Oper) (ms : List Nat) : Bool :=
  (List.range ops.size).all fun i => match nth ops.toList i, nth ms i with
    | some o, some m => (o.after.toList.all fun e => !Region.binds .any e || Nat.blt e.on i) &&
      (List.range i).all fun j => match nth ops.toList j with
        | some p => m.testBit j || !(hits p.dst (namesOf ops o) || hits o.dst (namesOf ops p) || (isE T p && isE T o))
        | none => false
    | _, _ => false

noncomputable def veqL (f : Value → Value → Bool) : List Value → List Value → Bool
  | [], [] => true
  | a :: as, b :: bs => f a b && veqL f as bs
  | _, _ => false

noncomputable def veq : Nat → Value → Value → Bool
  | 0, _, _ => false
  | n + 1, x, y => match x, y with
    | .bool a, .bool b => a == b
    | .int j a, .int k b => kindEq j k && a == b
    | .string a, .string b => a.data.toList == b.data.toList
    | .pointer none, .pointer none => true
    | .pointer (some a), .pointer (some b) => Nat.beq a.block b.block && Nat.beq a.off b.off && a.spot.isNone && b.spot.isNone
    | .slice none l c, .slice none l' c' => Nat.beq l l' && Nat.beq c c'
    | .slice (some a) l c, .slice (some b) l' c' => Nat.beq a.block b.block && Nat.beq a.off b.off && a.spot.isNone && b.spot.isNone && Nat.beq l l' && Nat.beq c c'
    | .map none, .map none => true
    | .map (some a), .map (some b) => Nat.beq a b
    | .nilFunc, .nilFunc => true
    | .nilIface, .nilIface => true
    | .iface t v, .iface u w => Nat.beq t u && veq n v w
    | .agg a, .agg b => veqL (veq n) a.toList b.toList
    | .func (.func f) a b, .func (.func g) c d => Nat.beq f g && veqL (veq n) a.toList c.toList && veqL (veq n) b.toList d.toList
    | _, _ => false

structure DSt where
  A : AAct
  S : ASt
  past : List (Nat × ASt)
  allocs : List (Nat × AObj)
  com : Nat
  pend : List (Nat × Oper × AAct × Value)

noncomputable def sameRead (X : XT) (o : Oper) (A : AAct) (v : Value) (S : ASt) : Bool :=
  match aRead X.T X.G S (aev X.G A) o with
  | some u => veq 5 v u
  | none => false

/-- Blocks made so far that must be there. -/
noncomputable def commitL (c0 mask com : Nat) : List (Nat × AObj) → ASt → ASt
  | [], S => S
  | (a, ob) :: l, S => match mask.testBit a && !com.testBit a with
    | true => mset (commitL c0 mask com l S) (c0 + a) ob
    | false => commitL c0 mask com l S

noncomputable def pastOk (X : XT) (o : Oper) (A : AAct) (v : Value) (mask : Nat) : List (Nat × ASt) → Bool
  | [] => true
  | (e, S) :: l => match mask.testBit e with
    | true => pastOk X o A v mask l
    | false => sameRead X o A v S && pastOk X o A v mask l

noncomputable def pendOk (X : XT) (mask : Nat) (S : ASt) : List (Nat × Oper × AAct × Value) → Bool
  | [] => true
  | (i, o, A, v) :: l => match mask.testBit i with
    | true => pendOk X mask S l
    | false => sameRead X o A v S && pendOk X mask S l

/-- An operation passed over. -/
noncomputable def drawPass (o : Oper) (D : DSt) : Option DSt :=
  match D with
  | ⟨A, S, past, allocs, com, pend⟩ => oB (aput A o.dst undef) fun A' => some ⟨A', S, past, allocs, com, pend⟩
/-- One that makes a block. -/
noncomputable def drawMake (X : XT) (c0 i : Nat) (o : Oper) (D : DSt) : Option DSt :=
  match D with
  | ⟨A, S, past, allocs, com, pend⟩ => oP (aEff X.T X.G ⟨.nil, top⟩ (c0 + i) (aev X.G A) o) fun u S' => oB u fun v => oB (aput A o.dst v) fun A' =>
    oE (S'.mem.get (c0 + i)) (some ⟨A', S, past, allocs, com, pend⟩) fun ob => some ⟨A', S, past, (i, ob) :: allocs, com, pend⟩
/-- One that reads. -/
noncomputable def drawRead (X : XT) (i : Nat) (o : Oper) (mask : Nat) (D : DSt) : Option DSt :=
  match D with
  | ⟨A, S, past, allocs, com, pend⟩ => oB (aReadF X.T X.G S (aev X.G A) o) fun v => oB (aput A o.dst v) fun A' => oT (pastOk X o A v mask past) <| some ⟨A', S, past, allocs, com, (i, o, A, v) :: pend⟩
/-- One that turns the memory. -/
noncomputable def drawEff (X : XT) (rec : Rec) (c0 i : Nat) (o : Oper) (mask : Nat) (D : DSt) : Option DSt :=
  match D with
  | ⟨A, S, past, allocs, com, pend⟩ => oP (aValF X rec (c0 + i) (aev X.G A) o (commitL c0 mask com allocs S)) fun v S2 => oB (aput A o.dst v) fun A' => oT (pendOk X mask S2 pend) <| oT (Nat.ble S2.ctr top) <|
    some ⟨A', S2, (i, S) :: past, allocs, Nat.lor com mask, pend⟩

noncomputable def drawOp (X : XT) (rec : Rec) (ops : Array Oper) (c0 i : Nat) (o : Oper) (mask : Nat) (D : DSt) : Option DSt :=
  oI (aWanted ops D.A o) (oI (makes X.T o) (drawMake X c0 i o D) (oI (isE X.T o) (drawEff X rec c0 i o mask D) (drawRead X i o mask D))) (drawPass o D)

noncomputable def drawGo (X : XT) (rec : Rec) (ops : Array Oper) (c0 : Nat) : List Oper → List Nat → Nat → DSt → Option DSt
  | o :: os, ms, i, D => match ms with
    | m :: ms => oB (drawOp X rec ops c0 i o m D) (drawGo X rec ops c0 os ms (Nat.succ i))
    | [] => none
  | [], _, _, D => some D

noncomputable def drawEnd (c0 n : Nat) (D : DSt) : Option Res :=
  match D with
  | ⟨A, S, _, allocs, com, _⟩ => some (.exit .normal A (commitL c0 (2 ^ n - 1) com allocs S))

noncomputable def aDraw (X : XT) (rec : Rec) (ops : Array Oper) (A : AAct) (S : ASt) : Option Res :=
  oT (drawOk X.T ops (masksGo ops.toList [])) <| onS S fun m c => force c fun c => force (c + ops.size) fun c' => oT (Nat.ble c' top) <|
    oB (drawGo X rec ops c ops.toList (masksGo ops.toList []) 0 ⟨A, ⟨m, c'⟩, [], [], 0, []⟩) (drawEnd c ops.size)

/-! ### functions -/
noncomputable def resVals (X : XT) (A : AAct) (S : ASt) : List ResultVar → Option (List Value)
  | [] => some []
  | .tmp t :: rs => oB (resVals X A S rs) fun vs => some (orU (A.tmps.get t) :: vs)
  | .cell a t :: rs => oB (aLoad X.T X.G S t (orU (A.tmps.get a))) fun v => oB (resVals X A S rs) fun vs => some (v :: vs)

noncomputable def enter (fn : Func) (args : Array Value) : Option AAct :=
  force (args.size + (fn.ntmps - args.size)) fun n => oT (Nat.ble n top) (some ⟨argsTr args.toList 0 .nil, n, []⟩)

noncomputable def stCond (rec : Rec) (f : Code → Cmd) (e : Option Value) (a b : Code) (A : AAct) (S : ASt) : Option Res :=
  match e with
  | some (.bool c) => oI c (rec (f a) A S) (rec (f b) A S)
  | _ => none

noncomputable def stBlock (id : Nat) (r : Option Res) : Option Res :=
  oX r fun x A1 S1 => match x with
    | .exit j => oI (Nat.beq j id) (some (.exit .normal A1 S1)) (some (.exit (.exit j) A1 S1))
    | x => some (.exit x A1 S1)

noncomputable def stScope (r : Option Res) : Option Res :=
  oX r fun x A1 S1 => match x with
    | .goto _ => none
    | x => some (.exit x A1 S1)

/-- The round's frame is laid. -/
noncomputable def stLoopIn (ro : Option Nat) (ps : Array Tmp) (assign body : Code) (A : AAct) (m : Tr AObj) (c c1 c2 : Nat) : Option (ASt × List ADef) :=
  match A with
  | ⟨tmps, n, ds⟩ => match ro with
    | none => some (mset (mset ⟨m, c2⟩ c .defd) c1 (.loop .ready none n tmps ps assign body c), .mark c :: ds)
    | some l0 => match m.get l0 with
      | some (.loop _ _ _ _ _ _ _ d0) => some (mset ⟨m, c2⟩ c1 (.loop .ready none n tmps ps assign body d0), ds)
      | _ => none

noncomputable def stLoopOut (rec : Rec) (ro : Option Nat) (c1 : Nat) (A : AAct) (ds1 : List ADef) (S4 : ASt) : Option Res :=
  match A with
  | ⟨tmps, n, _⟩ => match S4.mem.get c1 with
    | some (.loop st pending n' t' ps as b d) => match st with
      | .busy => none
      | _ => match pending with
        | none => some (.exit .normal ⟨tmps, n, ds1⟩ (mset S4 c1 (.loop .exhausted pending n' t' ps as b d)))
        | some cc => rec (.code ro cc) ⟨tmps, n, ds1⟩ (mset S4 c1 (.loop .exhausted pending n' t' ps as b d))
    | _ => none

noncomputable def stRange (rec : Rec) (ro : Option Nat) (f : Value) (ps : Array Tmp) (assign body : Code) (A : AAct) (S : ASt) : Option Res :=
  match f, S with
  | .func (.func k) first cap, ⟨m, c⟩ => bump c fun c1 => bump c1 fun c2 => oT (Nat.ble c2 top) <|
    oP (stLoopIn ro ps assign body A m c c1 c2) fun S3 ds1 => oV (rec (.call k (cat3 first #[.func (.yield c1) #[] #[]] cap)) act0 S3) fun _ S4 => stLoopOut rec ro c1 A ds1 S4
  | _, _ => none

noncomputable def stOps (X : XT) (rec : Rec) (ro : Option Nat) (ops : Array Oper) : List Oper → AAct → ASt → Option Res
  | [], A, S => some (.exit .normal A S)
  | o :: os, A, S => oI (aWanted ops A o) (onS S fun m c => bump c fun c' => oP (aOp X rec ro c o A ⟨m, c'⟩) (stOps X rec ro ops os)) (oB (aput A o.dst undef) fun A' => stOps X rec ro ops os A' S)

noncomputable def stCode (X : XT) (rec : Rec) (ro : Option Nat) (c : Code) (A : AAct) (S : ASt) : Option Res :=
  match c with
  | .skip => some (.exit .normal A S)
  | .label _ => some (.exit .normal A S)
  | .seq a b => oN (rec (.code ro a) A S) (rec (.code ro b))
  | .cond e a b => stCond rec (.code ro) (aev X.G A e) a b A S
  | .block id b => stBlock id (rec (.code ro b) A S)
  | .loop b => rec (.loop ro b) A S
  | .scope b => stScope (rec (.code ro b) A S)
  | .region _ ops draw => oI draw (aDraw X rec ops A S) (stOps X rec ro ops ops.toList A S)
  | .exit id => some (.exit (.exit id) A S)
  | .goto l => some (.exit (.goto l) A S)
  | .ret => some (.exit .ret A S)
  | .rangeFunc f ps assign body => oB (aev X.G A f) fun fv => stRange rec ro fv ps assign body A S
  | .refuse _ => none

noncomputable def stCall (X : XT) (rec : Rec) (f : FuncId) (args : Array Value) (S : ASt) : Option Res :=
  oB (X.fn f) fun fn => oB fn.body fun c => oB (enter fn args) fun A => oR (rec (.code none c) A S) fun A1 S1 => rec (.leave fn A1.defers) A1 S1

noncomputable def stLeave (X : XT) (rec : Rec) (fn : Func) (ds : List ADef) (A : AAct) (S : ASt) : Option Res :=
  match ds with
  | [] => oB (resVals X A S fn.results.toList) fun l => match l with
    | [v] => some (.val v S)
    | vs => some (.val (.tuple vs.toArray) S)
  | .mark r :: ds => match S.mem.get r with
    | some .defd => oT (Nat.blt r top) (rec (.leave fn ds) A (mdel S r))
    | _ => none
  | .call (.func k) cap args :: ds => oV (rec (.callD k (cat3 #[] args cap)) act0 S) fun _ S1 => rec (.leave fn ds) A S1
  | _ => none

noncomputable def stCallD (X : XT) (rec : Rec) (f : FuncId) (args : Array Value) (S : ASt) : Option Res :=
  oB (X.fn f) fun fn => oB fn.body fun c => oB (enter fn args) fun A => oR (rec (.codeS c) A S) fun A1 S1 => oT A1.defers.isEmpty (rec (.leave fn []) A1 S1)

noncomputable def recovers (o : Oper) : Bool :=
  match o.op with
  | .call { callee := .builtin .recover, .. } => true
  | _ => false

noncomputable def stCodeS (X : XT) (rec : Rec) (c : Code) (A : AAct) (S : ASt) : Option Res :=
  match c with
  | .seq a b => oN (rec (.codeS a) A S) (rec (.codeS b))
  | .cond e a b => stCond rec .codeS (aev X.G A e) a b A S
  | .region _ ops false => oI (ops.toList.any recovers) (rec (.opsS ops ops.toList) A S) (rec (.code none c) A S)
  | _ => rec (.code none c) A S

noncomputable def stOpS (X : XT) (rec : Rec) (ops : Array Oper) (o : Oper) (os : List Oper) (A : AAct) (S : ASt) : Option Res :=
  oI (aWanted ops A o)
    (oI (recovers o) (oB (aput A o.dst .nilIface) fun A' => rec (.opsS ops os) A' S)
      (match opKind o with
        | .plain => onS S fun m c => bump c fun c' => oP (aOp X rec none c o A ⟨m, c'⟩) fun A' S' => rec (.opsS ops os) A' S'
        | _ => none))
    (oB (aput A o.dst undef) fun A' => rec (.opsS ops os) A' S)

noncomputable def stepB (X : XT) (rec : Rec) (cmd : Cmd) (A : AAct) (S : ASt) : Option Res :=
  match cmd with
  | .code ro c => stCode X rec ro c A S
  | .loop ro c => oN (rec (.code ro c) A S) (rec (.loop ro c))
  | .ops ro ops l => stOps X rec ro ops l A S
  | .call f args => stCall X rec f args S
  | .leave fn ds => stLeave X rec fn ds A S
  | .callD f args => stCallD X rec f args S
  | .codeS c => stCodeS X rec c A S
  | .opsS ops l => match l with
    | [] => some (.exit .normal A S)
    | o :: os => stOpS X rec ops o os A S

noncomputable def run (X : XT) : Nat → Rec
  | 0 => fun _ _ _ => none
  | n + 1 => stepB X (run X n)
end Go.Ax
namespace Go.Ax
variable {P : Program} {G : Glob} {E : Env} {S : ASt} {w : World}

/-- The fence that lets everything in; of a round's frame, or not. -/
noncomputable def FW (ro : Option Nat) : Fence := { Fence.wide with round := ro }
theorem FW_none : FW none = Fence.wide := rfl
theorem FW_some (l : Nat) : FW (some l) = Fence.wide.inRound l := rfl

inductive DR (E : Env) : ADef → Deferred → Prop
  | mark {r : Nat} {i : BI} (h : E r = some i) : DR E (.mark r) { target := .collected i.c, args := #[] }
  | call {k : FuncId} {cap args cap' args' : Array Value} (h : ArrR E cap cap') (h' : ArrR E args args') : DR E (.call (.func k) cap args) { target := .fn (.func k) cap', args := args' }

theorem DR.mono {E E' : Env} (hle : E.le E') {d : ADef} {d' : Deferred} (h : DR E d d') : DR E' d d' := by
  cases h with
  | mark h => exact .mark (hle _ _ h)
  | call h h' => exact .call (h.mono hle) (h'.mono hle)

inductive DsR (E : Env) : List ADef → List Deferred → Prop
  | nil : DsR E [] []
  | cons {d : ADef} {d' : Deferred} {l : List ADef} {l' : List Deferred} (h : DR E d d') (t : DsR E l l') : DsR E (d :: l) (d' :: l')

theorem DsR.mono {E E' : Env} (hle : E.le E') {l : List ADef} {l' : List Deferred} (h : DsR E l l') : DsR E' l l' := by
  induction h with
  | nil => exact .nil
  | cons h _ ih => exact .cons (h.mono hle) ih

structure ActR (E : Env) (A : AAct) (a : Act) : Prop where
  tr : TR E A.n A.tmps a.tmps
  top : A.n ≤ top
  ds : DsR E A.defers a.defers

theorem ActR.mono {E E' : Env} (hle : E.le E') {A : AAct} {a : Act} (h : ActR E A a) : ActR E' A a := ⟨h.tr.mono hle, h.top, h.ds.mono hle⟩

inductive ExR : AX → Exit → Prop
  | normal : ExR .normal .normal
  | exit (id : Nat) : ExR (.exit id) (.exit id)
  | goto (l : Nat) : ExR (.goto l) (.goto l)
  | ret : ExR .ret .ret

/-- What an operation's run comes to. -/
noncomputable def Meets (P : Program) (r : Result Next) (R : Value → World → Prop) : Prop :=
  match r with
  | .ok (.value v) w' => R v w'
  | .ok .skip w' => R undef w'
  | .ok (.enter f args) w' => CallsIn Fence.wide 0 P f args w' fun e w'' => ∃ v, e = .returned v ∧ R v w''
  | .ok (.row row args) w' => RowsIn Fence.wide 0 P row args w' R
  | .ok (.round l f tmps assign body) w' => RoundIn Fence.wide 0 P l f tmps assign body w' fun e w'' => ∃ v, e = .returned v ∧ R v w''
  | _ => False

theorem Meets.mono {r : Result Next} {R R' : Value → World → Prop} (h : Meets P r R) (hr : ∀ v w', R v w' → R' v w') : Meets P r R' := by
  unfold Meets at *
  split
  · exact hr _ _ h
  · exact hr _ _ h
  · exact CallsIn.mono h fun e w' ⟨v, h1, h2⟩ => ⟨v, h1, hr _ _ h2⟩
  · exact RowsIn.mono h hr
  · exact RoundIn.mono h fun e w' ⟨v, h1, h2⟩ => ⟨v, h1, hr _ _ h2⟩
  · rename_i h1 h2 h3 h4 h5
    revert h
    split
    · exact absurd rfl (h1 _ _)
    · exact absurd rfl (h2 _)
    · exact absurd rfl (h3 _ _ _)
    · exact absurd rfl (h4 _ _ _)
    · exact absurd rfl (h5 _ _ _ _ _ _)
    · exact id

theorem upon_of_meets {ro : Option Nat} {o : Oper} {a : Act} {next : Act → World → Prop} {Q : Exit → Act → World → Prop} {r : Result Next} {R : Value → World → Prop}
    (h : Meets P r R) (hn : ∀ v w', R v w' → next (a.put o.dst v) w') : o.uponIn (FW ro) 0 P a next Q r := by
  unfold Meets at h
  split at h
  · exact hn _ _ h
  · exact hn _ _ h
  · exact ⟨fun hd => by simp [FW, Fence.wide] at hd, CallsIn.mono (F := FW ro) h fun e w' ⟨v, h1, h2⟩ => by subst h1; exact hn _ _ h2⟩
  · exact ⟨fun hd => by simp [FW, Fence.wide] at hd, RowsIn.mono (F := FW ro) h fun v w' h2 => hn _ _ h2⟩
  · exact ⟨fun hd => by simp [FW, Fence.wide] at hd, RoundIn.mono (F := FW ro) h fun e w' ⟨v, h1, h2⟩ => by subst h1; exact hn _ _ h2⟩
  · exact h.elim

noncomputable def isB : Value → Option Bool
  | .bool b => some b
  | _ => none
theorem VR.isBool {x v : Value} (h : VR E x v) : isB x = isB v := by
  cases h <;> rfl

theorem nth_eq {α : Type} : ∀ (l : List α) (k : Nat), nth l k = l[k]? := by
  intro l
  induction l with
  | nil => intro k; simp [nth]
  | cons x l ih =>
    intro k
    cases k with
    | zero => rfl
    | succ k => exact ih k

theorem eqB_eq (a b : Bool) : eqB a b = (a == b) := by cases a <;> cases b <;> rfl

theorem aYielded_eq {A : AAct} {a : Act} (h : ActR E A a) (ops : Array Oper) (j : Nat) : aYielded ops A j = yielded ops a.tmps j := by
  unfold aYielded yielded
  rw [nth_eq, Array.getElem?_toList]
  cases ops[j]? with
  | none => rfl
  | some o =>
    show oB o.dst (fun d => isB (orU (A.tmps.get d))) = (match o.dst.bind (a.tmps[·]?) with | some (.bool b) => some b | _ => none)
    cases o.dst with
    | none => rfl
    | some d =>
      show isB (orU (A.tmps.get d)) = (match a.tmps[d]? with | some (.bool b) => some b | _ => none)
      rw [orU_eq]
      have hv := h.tr.2 d
      cases hd : a.tmps[d]? with
      | none =>
        rw [show a.tmps.getD d undef = undef from by simp [Array.getD_eq_getD_getElem?, hd]] at hv
        rw [VR.isBool hv]; rfl
      | some v =>
        rw [show a.tmps.getD d undef = v from by simp [Array.getD_eq_getD_getElem?, hd]] at hv
        rw [VR.isBool hv]
        cases v <;> rfl

theorem aWanted_eq {A : AAct} {a : Act} (h : ActR E A a) (ops : Array Oper) (o : Oper) : aWanted ops A o = Region.wanted o (yielded ops a.tmps) := by
  unfold aWanted Region.wanted
  cases o.guard with
  | none => rfl
  | some p =>
    obtain ⟨j, want⟩ := p
    simp only
    rw [aYielded_eq h]
    cases yielded ops a.tmps j with
    | none => rfl
    | some b => simp only [eqB_eq]; cases b <;> cases want <;> rfl

theorem aev_ok (h : Rep G E S w) {A : AAct} {a : Act} (ha : ActR E A a) : EvR E (aev G A) a.eval := by
  intro x v e
  cases x with
  | tmp t =>
    simp only [aev, orU_eq] at e
    cases e
    exact ha.tr.2 t
  | const c =>
    simp only [aev] at e
    obtain ⟨h1, h2⟩ := oT_some e
    cases h2
    exact closedV_VR 4 _ h1
  | global g =>
    simp only [aev] at e
    obtain ⟨o, h1, h2⟩ := oB_some e
    cases h2
    obtain ⟨i, o', h3, h4, h5, _⟩ := h.glob g o h1
    exact .ptr ⟨rfl, rfl, i, h3, h4.symm, by simp [h5]⟩
  | func f =>
    simp only [aev] at e
    cases e
    exact .func' (.func f) .nil .nil

theorem aput_ok {A A' : AAct} {a : Act} (h : ActR E A a) {dst : Option Tmp} {v v' : Value} (hv : VR E v v') (e : aput A dst v = some A') : ActR E A' (a.put dst v') := by
  unfold aput at e
  cases dst with
  | none => cases e; exact h
  | some d =>
    simp only [onA_eq] at e
    obtain ⟨h1, h2⟩ := oT_some e
    cases h2
    have h1 : d < A.n := Nat.le_of_ble_eq_true h1
    refine ⟨⟨by simpa [Act.put] using h.tr.1, fun j => ?_⟩, h.top, h.ds⟩
    simp only [Act.put]
    rw [Tr.get_set _ _ _ _ _ (top_lt (Nat.lt_of_lt_of_le h1 h.top))]
    by_cases hj : j = d
    · subst hj
      rw [if_pos rfl]
      have : j < a.tmps.size := by rw [h.tr.1]; exact h1
      simpa [Array.getD_eq_getD_getElem?, this] using hv
    · rw [if_neg hj]
      have := h.tr.2 j
      simpa [Array.getD_eq_getD_getElem?, Array.getElem?_setIfInBounds_ne (Ne.symm hj)] using this

theorem aput_n {A A' : AAct} {dst : Option Tmp} {v : Value} (e : aput A dst v = some A') : A'.n = A.n ∧ A'.defers = A.defers := by
  unfold aput at e
  cases dst with
  | none => cases e; exact ⟨rfl, rfl⟩
  | some d =>
    simp only [onA_eq] at e
    obtain ⟨_, h2⟩ := oT_some e
    cases h2; exact ⟨rfl, rfl⟩

theorem appL_eq : ∀ (x y : List Value), appL x y = x ++ y := by
  intro x y
  induction x with
  | nil => rfl
  | cons a x ih => simp [appL, ih]

theorem cat3_eq (a b c : Array Value) : cat3 a b c = a ++ b ++ c := by
  unfold cat3
  split
  · rename_i h1 h2
    have h1 : a = #[] := by simpa using h1
    have h2 : c = #[] := by simpa using h2
    simp [h1, h2]
  · rename_i x y h1
    rw [appL_eq, appL_eq]
    apply Array.toList_inj.1 
    simp

inductive LR (E : Env) : List Value → List Value → Prop
  | nil : LR E [] []
  | cons {v v' : Value} {l l' : List Value} (h : VR E v v') (t : LR E l l') : LR E (v :: l) (v' :: l')

theorem aputs_ok : ∀ (ts : List Tmp) (vs : List Value) (A A' : AAct) (a : Act) (vs' : List Value), ActR E A a → LR E vs vs' → aputs ts vs A = some A' →
    ts.length = vs'.length ∧ ActR E A' { a with tmps := (ts.zip vs').foldl (fun tmps (p : Tmp × Value) => tmps.setIfInBounds p.1 p.2) a.tmps } := by
  intro ts
  induction ts with
  | nil =>
    intro vs A A' a vs' h hv e
    cases hv with
    | nil => simp only [aputs] at e; cases e; exact ⟨rfl, h⟩
    | cons _ _ => simp [aputs] at e
  | cons t ts ih =>
    intro vs A A' a vs' h hv e
    cases hv with
    | nil => simp [aputs] at e
    | @cons v v' vs vs' h1 h2 =>
      simp only [aputs] at e
      obtain ⟨A1, e1, e2⟩ := oB_some e
      obtain ⟨h3, h4⟩ := ih vs A1 A' (a.put (some t) v') vs' (aput_ok h h1 e1) h2 e2
      exact ⟨by simp [h3], h4⟩

theorem ArrR.forall2 {c c' : Array Value} (h : ArrR E c c') : LR E c.toList c'.toList := by
  obtain ⟨l⟩ := c
  obtain ⟨l'⟩ := c'
  obtain ⟨h1, h2⟩ := h
  simp only at h1 h2 ⊢
  simp only [List.size_toArray] at h1
  induction l generalizing l' with
  | nil => cases l' with
    | nil => exact .nil
    | cons _ _ => simp at h1
  | cons x l ih => cases l' with
    | nil => simp at h1
    | cons y l' => 
      refine .cons (h2 0 (by simp) (by simp)) (ih l' (fun i a b => ?_) (by simpa using h1))
      exact h2 (i + 1) (by simpa using a) (by simpa using b)
end Go.Ax
namespace Go.Ax
variable {P : Program} {E : Env} {S : ASt} {w : World} {X : XT} {rec : Rec}

structure XOk (X : XT) (P : Program) : Prop where
  T : X.T.Ok P
  fn : ∀ f fn, X.fn f = some fn → P.funcs[f]? = some fn ∧ ∀ args w, (callFunc f args).run P w = .ok (.enter f args) w
  ext : ∀ f args v, X.ext f args = some v → ∀ E S w args', Rep X.G E S w → ArrR E args args' → Meets P ((callFunc f args').run P w) (fun v' w' => VR E v v' ∧ Post X.G (S.ctr ≤ ·) E S w E S w')
  orc : ∀ f args S v S', X.orc f args S = some (v, S') → ∀ E w args', Rep X.G E S w → ArrR E args args' → Meets P ((callFunc f args').run P w) (fun v' w' => ∃ E', VR E' v v' ∧ Post X.G (S.ctr ≤ ·) E S w E' S' w')
  mixed : P.follows .mixedOrders = true

noncomputable def Ends (G : Glob) (E : Env) (S : ASt) (w : World) (x : AX) (A' : AAct) (S' : ASt) : Exit → Act → World → Prop :=
  fun e a' w' => ∃ E', ExR x e ∧ ActR E' A' a' ∧ Post G (S.ctr ≤ ·) E S w E' S' w'

noncomputable def RoR (E : Env) : Option Nat → Option Nat → Prop
  | none, none => True
  | some l, some c => ∃ i, E l = some i ∧ i.c = c
  | _, _ => False

theorem RoR.mono {E E' : Env} (hle : E.le E') {ro rc : Option Nat} (h : RoR E ro rc) : RoR E' ro rc := by
  cases ro <;> cases rc <;> first | exact h | (obtain ⟨i, h1, h2⟩ := h; exact ⟨i, hle _ _ h1, h2⟩)

noncomputable def Gives (G : Glob) (E : Env) (S : ASt) (w : World) (v : Value) (S' : ASt) : Ending → World → Prop :=
  fun e w' => ∃ v', e = .returned v' ∧ ∃ E', VR E' v v' ∧ Post G (S.ctr ≤ ·) E S w E' S' w'

/-- What a run of the evaluator says of the machine. -/
noncomputable def Good (X : XT) (P : Program) : Cmd → AAct → ASt → Res → Prop
  | .code ro c, A, S, .exit x A' S' => ∀ E w a rc, Rep X.G E S w → ActR E A a → RoR E ro rc → c.wpIn (FW rc) 0 P (Ends X.G E S w x A' S') a w
  | .loop ro c, A, S, .exit x A' S' => ∃ m, ∀ E w a rc, Rep X.G E S w → ActR E A a → RoR E ro rc → Code.roundsIn (FW rc) 0 P c (Ends X.G E S w x A' S') m a w
  | .ops ro ops l, A, S, .exit x A' S' => x = .normal ∧ ∀ i, l = ops.toList.drop i → ∀ E w a rc, Rep X.G E S w → ActR E A a → RoR E ro rc →
      wpOpsIn (FW rc) 0 P ops (Ends X.G E S w .normal A' S') (List.range' i l.length) a w
  | .call f args, _, S, .val v S' => ∀ E w args', Rep X.G E S w → ArrR E args args' → (callFunc f args').run P w = .ok (.enter f args') w ∧ CallsIn Fence.wide 0 P f args' w (Gives X.G E S w v S')
  | .callD f args, _, S, .val v S' => ∀ E w args', Rep X.G E S w → ArrR E args args' → (callFunc f args').run P w = .ok (.enter f args') w ∧
      CallsDIn Fence.wide 0 P f args' .returning w fun e u' w' => u' = .returning ∧ Gives X.G E S w v S' e w'
  | .leave fn ds, A, S, .val v S' => ∀ E w a ds' R, Rep X.G E S w → ActR E A a → DsR E ds ds' → (∀ e w', Gives X.G E S w v S' e w' → R e w') → LeavesInM Fence.wide 0 P fn a.tmps R ds' .returning w
  | .codeS c, A, S, .exit x A' S' => ∀ E w a c₀ cs, c₀.mode = .returning → Rep X.G E S w → ActR E A a → c.wpSIn Fence.wide 0 P (fun e a' cs' w' => cs' = c₀ :: cs ∧ Ends X.G E S w x A' S' e a' w') a (c₀ :: cs) w
  | .opsS ops l, A, S, .exit x A' S' => x = .normal ∧ ∀ i, l = ops.toList.drop i → ∀ E w a c₀ cs, c₀.mode = .returning → Rep X.G E S w → ActR E A a →
      wpOpsSIn Fence.wide 0 P ops (fun e a' cs' w' => cs' = c₀ :: cs ∧ Ends X.G E S w .normal A' S' e a' w') (List.range' i l.length) a (c₀ :: cs) w
  | _, _, _, _ => False

noncomputable def Sound (X : XT) (P : Program) (rec : Rec) : Prop := ∀ cmd A S r, rec cmd A S = some r → Good X P cmd A S r

theorem Ends.after {G : Glob} {E E1 : Env} {S S1 S' : ASt} {w w1 : World} {x : AX} {A' : AAct} {e : Exit} {a' : Act} {w' : World} (h : Post G (S.ctr ≤ ·) E S w E1 S1 w1) (k : Ends G E1 S1 w1 x A' S' e a' w') :
    Ends G E S w x A' S' e a' w' := by
  obtain ⟨E', h1, h2, h3⟩ := k
  exact ⟨E', h1, h2, h.trans (h3.mono fun b hb => Nat.le_trans h.ctr hb)⟩

theorem Gives.after {G : Glob} {E E1 : Env} {S S1 S' : ASt} {w w1 : World} {v : Value} {e : Ending} {w' : World} (h : Post G (S.ctr ≤ ·) E S w E1 S1 w1) (k : Gives G E1 S1 w1 v S' e w') :
    Gives G E S w v S' e w' := by
  obtain ⟨v', h1, E', h2, h3⟩ := k
  exact ⟨v', h1, E', h2, h.trans (h3.mono fun b hb => Nat.le_trans h.ctr hb)⟩

theorem evA_eq {ev : Operand → Option Value} {ρ : Operand → Value} (h : EvR E ev ρ) {xs : Array Operand} {vs : Array Value} (e : evA ev xs = some vs) : ArrR E vs (xs.map ρ) := evA_ok h e

/-! ### rounds -/
theorem getLoop_rep (h : Rep X.G E S w) {l : Nat} {st pending n tmps params assign body d} {i : BI} (hm : S.mem.get l = some (.loop st pending n tmps params assign body d)) (hi : E l = some i) :
    ∃ fn tmps' d', w.heap[i.c]? = some (.loop { state := st, pending, fn, tmps := tmps', params, assign, body, defers := d' }) ∧ TR E n tmps tmps' ∧ ∃ j, E d = some j ∧ j.c = d' := by
  obtain ⟨i', o', h1, h2, h3⟩ := h.obj l _ hm
  rw [hi] at h1; cases h1
  obtain ⟨fn, tmps', d', rfl, h4, h5⟩ := h3
  exact ⟨fn, tmps', d', h2, h4, h5⟩

theorem setLoop_ok {N : Nat → Prop} (h : Rep X.G E S w) {l : Nat} {i : BI} {st : LoopState} {p : Option Code} {S' : ASt} (hl : l < top) (hi : E l = some i) (e : setLoop S l st p = some S') :
    ∃ r, w.heap[i.c]? = some (.loop r) ∧ Post X.G N E S w E S' (w.putObj i.c (.loop { r with state := st, pending := p })) := by
  unfold setLoop at e
  split at e
  case h_2 => cases e
  rename_i st0 p0 n t ps as b d hm
  cases e
  obtain ⟨fn, tmps', d', h1, h2, h3⟩ := getLoop_rep h hm hi
  exact ⟨_, h1, h.updObj hm hi hl h1 ⟨fn, tmps', d', rfl, h2, h3⟩⟩

theorem setBusy_ok {N : Nat → Prop} (h : Rep X.G E S w) {l : Nat} {i : BI} {S' : ASt} (hl : l < top) (hi : E l = some i) (e : setBusy S l = some S') :
    ∃ r, w.heap[i.c]? = some (.loop r) ∧ r.state = .ready ∧ Post X.G N E S w E S' (w.putObj i.c (.loop { r with state := .busy })) := by
  unfold setBusy at e
  split at e
  case h_2 => cases e
  rename_i p0 n t ps as b d hm
  cases e
  obtain ⟨fn, tmps', d', h1, h2, h3⟩ := getLoop_rep h hm hi
  exact ⟨_, h1, rfl, h.updObj hm hi hl h1 ⟨fn, tmps', d', rfl, h2, h3⟩⟩

theorem aRoundEnd_ok {N : Nat → Prop} (h : Rep X.G E S w) {l : Nat} {i : BI} {x : AX} {e : Exit} {a : Act} {v : Value} {S' : ASt} (hl : l < top) (hi : E l = some i) (he : aRoundEnd l x S = some (v, S')) (hx : ExR x e)
    {R : Ending → World → Prop} (hR : ∀ w', Post X.G N E S w E S' w' → VR E v v → R (.returned v) w') : roundPost P i.c R e a w := by
  cases hx with
  | normal =>
    obtain ⟨S4, h1, h2⟩ := oB_some he
    cases h2
    obtain ⟨r, h3, h4⟩ := setLoop_ok h hl hi h1
    exact ⟨_, _, run_endRound none h3, hR _ h4 (.bool _)⟩
  | ret =>
    obtain ⟨S4, h1, h2⟩ := oB_some he
    cases h2
    obtain ⟨r, h3, h4⟩ := setLoop_ok h hl hi h1
    exact ⟨_, _, run_endRound (some .ret) h3, hR _ h4 (.bool _)⟩
  | exit id =>
    obtain ⟨S4, h1, h2⟩ := oB_some he
    cases h2
    obtain ⟨r, h3, h4⟩ := setLoop_ok h hl hi h1
    exact ⟨_, _, run_endRound (some (.exit id)) h3, hR _ h4 (.bool _)⟩
  | goto t => cases he

theorem Good.exit {ro : Option Nat} {c : Code} {A : AAct} {r : Res} (h : Good X P (.code ro c) A S r) : ∃ x A' S', r = .exit x A' S' := by
  cases r with
  | exit x A' S' => exact ⟨x, A', S', rfl⟩
  | val v S' => exact h.elim

theorem zip_fold (ps : Array Tmp) (as tm : Array Value) : (ps.zip as).foldl (fun tmps (t, a) => tmps.setIfInBounds t a) tm = (ps.toList.zip as.toList).foldl (fun tmps (p : Tmp × Value) => tmps.setIfInBounds p.1 p.2) tm := by
  rw [← Array.foldl_toList, Array.toList_zip]

theorem aRound_ok (hs : Sound X P rec) (h : Rep X.G E S w) {l : Nat} {i : BI} (hi : E l = some i) {args args' : Array Value} (ha : ArrR E args args') {v : Value} {S' : ASt} (he : aRound rec l args S = some (v, S')) :
    Meets P ((Instr.yield i.c args').run P w) (fun v' w' => ∃ E', VR E' v v' ∧ Post X.G (S.ctr ≤ ·) E S w E' S' w') := by
  unfold aRound at he
  split at he
  case h_2 => cases he
  rename_i p0 n tmps params assign body d hm
  obtain ⟨hl, he⟩ := oT_some he
  have hl : l < top := by simpa [Nat.blt_eq] using hl
  obtain ⟨hn, he⟩ := oT_some he
  have hn : n ≤ top := Nat.le_of_ble_eq_true hn
  obtain ⟨A0, e0, he⟩ := oB_some he
  obtain ⟨A1, S1, e1, he⟩ := oN'_some he
  obtain ⟨S2, e2, he⟩ := oB_some he
  obtain ⟨x, A3, S3, e3, he⟩ := oX_some he
  obtain ⟨fn, tmps', d', g1, g2, g3⟩ := getLoop_rep h hm hi
  obtain ⟨k1, k2⟩ := aputs_ok _ _ _ _ ({ tmps := tmps', defers := [] } : Act) _ ⟨g2, hn, .nil⟩ ha.forall2 e0
  have hsz : args'.size = params.size := by simpa using k1.symm
  rw [run_yield g1 hsz, zip_fold]
  have q1 := hs _ _ _ _ e1 E w _ (some i.c) h k2 ⟨i, hi, rfl⟩
  refine roundIn_of_wpIn trivial (wpIn_mono q1 fun e a1 w1 ⟨E1, hx, ha1, hp1⟩ => ?_)
  cases hx
  obtain ⟨r2, b1, b2, b3⟩ := setBusy_ok (N := (S.ctr ≤ ·)) hp1.rep hl (hp1.le _ _ hi) e2
  refine ⟨_, run_beginRound b1 b2, ?_⟩
  have q3 := hs _ _ _ _ e3 E1 _ a1 (some i.c) b3.rep ha1 ⟨i, hp1.le _ _ hi, rfl⟩
  refine wpIn_mono q3 fun e a3 w3 ⟨E3, hx3, ha3, hp3⟩ => ?_
  have hc : S.ctr ≤ S2.ctr := Nat.le_trans hp1.ctr b3.ctr
  have hall := (hp1.trans b3).trans (hp3.mono fun b hb => Nat.le_trans hc hb)
  exact aRoundEnd_ok (N := (S.ctr ≤ ·)) hp3.rep hl (hall.le _ _ hi) he hx3 fun w' hp hv => ⟨_, rfl, E3, hv, hall.trans hp⟩

end Go.Ax
namespace Go.Ax
variable {P : Program} {E : Env} {S : ASt} {w : World} {X : XT} {rec : Rec}

theorem Post.or {N : Nat → Prop} {nm : Nat} {E' : Env} {S' : ASt} {w' : World} (h : Post X.G (· = nm) E S w E' S' w') : Post X.G (fun b => b = nm ∨ N b) E S w E' S' w' := h.mono fun _ hb => .inl hb
theorem Post.orR {N : Nat → Prop} {nm : Nat} {E' : Env} {S' : ASt} {w' : World} (h : Post X.G N E S w E' S' w') : Post X.G (fun b => b = nm ∨ N b) E S w E' S' w' := h.mono fun _ hb => .inr hb

theorem meets_nx {r : Option Value} {nx : Next} {w' : World} {E' : Env} {v : Value} {R : Value → World → Prop} (hn : NxR E' r nx) (h1 : ∀ u v', r = some u → VR E' u v' → R v' w') (h2 : r = none → R undef w') : Meets P (.ok nx w') R := by
  cases hn with
  | value h => exact h1 _ _ rfl h
  | skip => exact h2 rfl

theorem good_callV {k : FuncId} {args : Array Value} {v : Value} {S' : ASt} (hg : Good X P (.call k args) act0 S (.val v S')) (h : Rep X.G E S w) {args' : Array Value} (ha : ArrR E args args') :
    Meets P ((callFunc k args').run P w) (fun v' w' => ∃ E', VR E' v v' ∧ Post X.G (S.ctr ≤ ·) E S w E' S' w') := by
  obtain ⟨h1, h2⟩ := hg E w args' h ha
  rw [h1]
  exact CallsIn.mono h2 fun e w' ⟨v', h3, h4⟩ => ⟨v', h3, h4⟩

theorem aCallF_ok (hX : XOk X P) (hs : Sound X P rec) (h : Rep X.G E S w) {k : FuncId} {args args' : Array Value} (ha : ArrR E args args') {v : Value} {S' : ASt} (he : aCallF X rec k args S = some (v, S')) :
    Meets P ((callFunc k args').run P w) (fun v' w' => ∃ E', VR E' v v' ∧ Post X.G (S.ctr ≤ ·) E S w E' S' w') := by
  unfold aCallF at he
  rcases oE_some he with ⟨h1, he⟩ | ⟨u, h1, he⟩
  · rcases oE_some he with ⟨h2, he⟩ | ⟨u, h2, he⟩
    · obtain ⟨u, S1, h3, h4⟩ := oV_some he
      cases h4
      exact good_callV (hs _ _ _ _ h3) h ha
    · cases he
      exact hX.orc _ _ _ _ _ h2 E w args' h ha
  · cases he
    exact (hX.ext _ _ _ h1 E _ w args' h ha).mono fun v' w' ⟨h2, h3⟩ => ⟨E, h2, h3⟩

theorem aCallV_ok (hX : XOk X P) (hs : Sound X P rec) (h : Rep X.G E S w) {f f' : Value} (hf : VR E f f') {args args' : Array Value} (ha : ArrR E args args') {v : Value} {S' : ASt} (he : aCallV X rec f args S = some (v, S')) :
    Meets P ((do let d ← Deferred.ofValue f' args'; invoke d.target d.args : Sem Next).run P w) (fun v' w' => ∃ E', VR E' v v' ∧ Post X.G (S.ctr ≤ ·) E S w E' S' w') := by
  unfold aCallV at he
  split at he
  · rename_i k first cap
    cases hf with
    | func hfn s1 h1 s2 h2 =>
    rename_i fn' f1 c1
    cases hfn
    rw [cat3_eq] at he
    have := aCallF_ok hX hs h ((ArrR.append ⟨s1, h1⟩ ha).append ⟨s2, h2⟩) he
    simpa [Deferred.ofValue, invoke, Sem.run_bind] using this
  · rename_i l first cap
    obtain ⟨he1, he⟩ := oT_some he
    simp only [Bool.and_eq_true, Array.isEmpty_iff] at he1
    obtain ⟨rfl, rfl⟩ := he1
    cases hf with
    | func hfn s1 h1 s2 h2 =>
    rename_i fn' f1 c1
    cases hfn with
    | yield hl =>
    have z1 : f1 = #[] := Array.eq_empty_of_size_eq_zero s1.symm
    have z2 : c1 = #[] := Array.eq_empty_of_size_eq_zero s2.symm
    subst z1 z2
    have := aRound_ok hs h hl ha he
    simpa [Deferred.ofValue, invoke, Sem.run_bind] using this
  · cases he

theorem run_call {ρ : Operand → Value} {o : Oper} {c : Call} {f : Operand} (ho : o.op = .call c) (hc : c.callee = .value f) :
    execOp ρ o = (do let d ← Deferred.ofValue (ρ f) (c.args.map ρ); invoke d.target d.args) := by
  simp only [execOp, ho, resolve, hc]

theorem aVal_ok (hX : XOk X P) (hs : Sound X P rec) (h : Rep X.G E S w) {nm : Nat} {ev : Operand → Option Value} {ρ : Operand → Value} (hev : EvR E ev ρ) {o : Oper} {v : Value} {S' : ASt} (he : aVal X rec nm ev o S = some (v, S'))
    (hn : E nm = none) (hc : nm < S.ctr) : Meets P ((execOp ρ o).run P w) (fun v' w' => ∃ E', VR E' v v' ∧ Post X.G (fun b => b = nm ∨ S.ctr ≤ b) E S w E' S' w') := by
  unfold aVal at he
  split at he
  · rename_i f args hk
    obtain ⟨fv, e1, he⟩ := oB_some he
    obtain ⟨vs, e2, he⟩ := oB_some he
    have hop : ∃ c, o.op = .call c ∧ c.callee = .value f ∧ c.args = args := by
      unfold opKind at hk
      split at hk
      · rename_i c hoc
        split at hk
        · rename_i g hg
          cases hk
          exact ⟨c, hoc, hg, rfl⟩
        · cases hk
      · split at hk <;> cases hk
      · cases hk
    obtain ⟨c, h1, h2, h3⟩ := hop
    rw [run_call h1 h2, h3]
    exact (aCallV_ok hX hs h (hev _ _ e1) (evA_ok hev e2) he).mono fun v' w' ⟨E', h4, h5⟩ => ⟨E', h4, h5.orR⟩
  · cases he
  · split at he
    · split at he
      · rename_i u hu
        cases he
        obtain ⟨r', h1, h2⟩ := aRead_ok hX.T h hev hu
        rw [h1]
        exact ⟨E, h2, Post.refl h⟩
      · split at he
        · rename_i u S1 hu
          cases he
          obtain ⟨E', nx, w', h1, h2, h3⟩ := aEff_ok hX.T h hev hu hn hc
          rw [h1]
          cases h2 with
          | value h2 => exact ⟨E', h2, h3.or⟩
        · rename_i S1 hu
          cases he
          obtain ⟨E', nx, w', h1, h2, h3⟩ := aEff_ok hX.T h hev hu hn hc
          rw [h1]
          cases h2 with
          | skip => exact ⟨E', .undef, h3.or⟩
        · cases he
    · split at he
      · rename_i u S1 hu
        cases he
        obtain ⟨E', nx, w', h1, h2, h3⟩ := aEff_ok hX.T h hev hu hn hc
        rw [h1]
        cases h2 with
        | value h2 => exact ⟨E', h2, h3.or⟩
      · cases he

theorem aReadF_eq {T : Tabs} {G : Glob} {ev : Operand → Option Value} {o : Oper} {r : Value} (he : aReadF T G S ev o = some r) : aRead T G S ev o = some r := by
  unfold aReadF at he
  unfold rOf at he
  split at he <;> rename_i heq <;> split at heq <;> rename_i ho <;> cases heq
  all_goals first
    | (simp only [rMove] at he; simp only [aRead, ho]; exact he)
    | (simp only [rRest] at he; exact he)
    | skip
  all_goals
    simp only [rLoad, rNil, rBin, rFieldAddr, rField, rIndexAddr, rIndex, rExtract] at he
    obtain ⟨v1, g1, he⟩ := oB_some he
  all_goals first
    | (simp only [aRead, ho, g1]; exact he)
    | (obtain ⟨v2, g2, he⟩ := oB_some he
       simp only [aRead, ho, g1, g2]; exact he)

theorem aVal_read {nm : Nat} {ev : Operand → Option Value} {o : Oper} {r : Value} (hk : opKind o = .plain) (hm : makes X.T o = false) (he : aReadF X.T X.G S ev o = some r) : aVal X rec nm ev o S = some (r, S) := by
  simp only [aVal, hk, hm, aReadF_eq he]

theorem aValF_eq {nm : Nat} {ev : Operand → Option Value} {o : Oper} {r : Value × ASt} (he : aValF X rec nm ev o S = some r) : aVal X rec nm ev o S = some r := by
  unfold aValF hOf at he
  split at he
  rename_i f hf
  split at hf
  case h_11 t a x ho =>
    cases hf
    obtain ⟨v1, g1, he⟩ := oB_some he
    obtain ⟨v2, g2, he⟩ := oB_some he
    obtain ⟨v3, g3, he⟩ := oB_some he
    cases he
    simp only [aVal, opKind, ho, makes, aRead, aEff, g1, g2, g3]
  case h_12 c ho =>
    split at hf
    · rename_i g hg
      cases hf
      simp only [hCall] at he
      simpa only [aVal, opKind, ho, hg] using he
    · cases hf; exact he
  case h_13 => cases hf; exact he
  all_goals
    rename_i ho
    cases hf
    obtain ⟨v1, g1, he⟩ := oB_some he
    cases he
    exact aVal_read (by simp only [opKind, ho]) (by simp only [makes, ho]) (by simp only [aReadF, rOf, ho]; exact g1)
end Go.Ax
namespace Go.Ax
variable {P : Program} {E : Env} {S : ASt} {w : World} {X : XT} {rec : Rec}

theorem Rep.fresh {G : Glob} (h : Rep G E S w) {n : Nat} (hn : S.ctr ≤ n) : E n = none := by
  cases e : E n with
  | none => rfl
  | some i => have := h.dom n i e; omega

theorem opKind_defer {o : Oper} {f : Operand} {args : Array Operand} (h : opKind o = .defer f args) : ∃ c, o.op = .defer c ∧ c.callee = .value f ∧ c.args = args := by
  unfold opKind at h
  split at h
  · split at h <;> cases h
  · rename_i c hoc
    split at h
    · rename_i g hg; cases h; exact ⟨c, hoc, hg, rfl⟩
    · cases h
  · cases h

/-- One operation in its place: what follows is met. -/
theorem aOp_ok (hX : XOk X P) (hs : Sound X P rec) {ro rc : Option Nat} {o : Oper} {A A' : AAct} {S' : ASt} {m : Tr AObj} {c : Nat} (he : aOp X rec ro c o A ⟨m, c + 1⟩ = some (A', S'))
    (h : Rep X.G E ⟨m, c⟩ w) {a : Act} (ha : ActR E A a) (hr : RoR E ro rc) {next : Act → World → Prop} {Q : Exit → Act → World → Prop}
    (hn : ∀ E' a' w', ActR E' A' a' → Post X.G (c ≤ ·) E ⟨m, c⟩ w E' S' w' → next a' w') : o.wpIn (FW rc) 0 P a w next Q := by
  refine ⟨fun _ _ => trivial, ?_⟩
  have h1 : Rep X.G E ⟨m, c + 1⟩ w := h.ctr (by show c ≤ c + 1; omega)
  have plain : ∀ {v : Value} {S1 : ASt}, (∀ d, o.op ≠ .defer d) → aValF X rec c (aev X.G A) o ⟨m, c + 1⟩ = some (v, S1) → aput A o.dst v = some A' → S1 = S' →
      o.uponIn (FW rc) 0 P a next Q ((o.semAt (FW rc).round a.eval).run P w) := fun {v S1} hd e1 e2 e3 => by
    subst e3
    rw [Oper.semAt_eq _ _ _ hd]
    have hm := aVal_ok hX hs h1 (aev_ok h1 ha) (aValF_eq e1) (h.fresh (Nat.le_refl _)) (by show c < c + 1; omega)
    refine upon_of_meets hm fun v' w' ⟨E', g1, g2⟩ => ?_
    have g3 : Post X.G (c ≤ ·) E ⟨m, c⟩ w E' S1 w' := by
      have := g2.mono (N' := (c ≤ ·)) (fun b hb => by
        rcases hb with rfl | hb
        · exact Nat.le_refl _
        · exact Nat.le_of_succ_le hb)
      exact { this with ctr := Nat.le_trans (by show c ≤ c + 1; omega) this.ctr }
    exact hn E' _ w' (aput_ok (ha.mono g2.le) g1 e2) g3
  unfold aOp at he
  split at he
  · rename_i f args hk
    obtain ⟨cl, o1, o2, o3⟩ := opKind_defer hk
    unfold aDefer at he
    split at he
    case h_2 => cases he
    rename_i k first cap vs e1 e2
    have hrc : rc = none := by
      cases rc with
      | none => rfl
      | some l => exact hr.elim
    subst hrc
    obtain ⟨A1, e3, e4⟩ := oB_some he
    cases e4
    have hev := aev_ok h ha
    have hf := hev _ _ e1
    have hv := evA_ok hev e2
    generalize hfv : a.eval f = fv' at hf
    cases hf with
    | func hfn s1 q1 s2 q2 =>
    rename_i fn' f1 c1
    cases hfn
    have hrun : (execOp a.eval o).run P w = .ok (.defer { target := .fn (.func k) c1, args := f1 ++ args.map a.eval }) w := by
      simp only [execOp, o1, resolve, o2, o3, hfv, Deferred.ofValue]
      simp
    show o.uponIn (FW none) 0 P a next Q ((execOp a.eval o).run P w)
    rw [hrun, Oper.uponIn_defer]
    have hds : ActR E ⟨A.tmps, A.n, .call (.func k) cap (cat3 first vs #[]) :: A.defers⟩ { a with defers := { target := .fn (.func k) c1, args := f1 ++ args.map a.eval } :: a.defers } :=
      ⟨ha.tr, ha.top, .cons (.call ⟨s2, q2⟩ (by rw [cat3_eq]; simpa using ArrR.append ⟨s1, q1⟩ hv)) ha.ds⟩
    refine hn E _ w (aput_ok hds .undef e3) ?_
    have := Post.refl (N := (c ≤ ·)) h1
    exact { this with ctr := by show c ≤ c + 1; omega }
  · rename_i hk
    obtain ⟨v, S1, e1, e2⟩ := oP_some he
    obtain ⟨A1, e3, e4⟩ := oB_some e2
    cases e4
    by_cases hd : ∃ d, o.op = .defer d
    · obtain ⟨d, hd⟩ := hd
      have e1 := aValF_eq e1
      unfold aVal at e1
      have hko : opKind o = .plain ∨ ∃ f args, opKind o = .defer f args := by
        unfold opKind
        rw [hd]
        simp only
        split
        · exact .inr ⟨_, _, rfl⟩
        · exact .inl rfl
      rcases hko with hko | ⟨f, args, hko⟩
      · rw [hko] at e1
        simp only [makes, hd] at e1
        simp [aRead, aEff, hd] at e1
      · exact absurd hko (hk f args)
    · exact plain (fun d hd' => hd ⟨d, hd'⟩) e1 e3 rfl

theorem drop_cons {ops : Array Oper} {i : Nat} {o : Oper} {os : List Oper} (h : o :: os = ops.toList.drop i) : ops[i]? = some o ∧ os = ops.toList.drop (i + 1) := by
  have h1 : (ops.toList.drop i)[0]? = some o := by rw [← h]; rfl
  rw [List.getElem?_drop] at h1
  have h2 : (ops.toList.drop i).drop 1 = os := by rw [← h]; rfl
  rw [List.drop_drop] at h2
  refine ⟨by simpa using h1, by rw [← h2]⟩

theorem wpOpsIn_mono {F : Fence} {n : Nat} {ops : Array Oper} {Q Q' : Exit → Act → World → Prop} (hp : ∀ e a w, Q e a w → Q' e a w) : ∀ (l : List Nat) (a : Act) (w : World), wpOpsIn F n P ops Q l a w → wpOpsIn F n P ops Q' l a w := by
  have hlet : LetsOut Q → LetsOut Q' := fun ⟨a, w, h⟩ => ⟨a, w, hp _ _ _ h⟩
  intro l
  induction l with
  | nil => intro a w h; exact hp _ _ _ h
  | cons i l ih =>
    intro a w h
    simp only [wpOpsIn] at h ⊢
    split
    · rename_i ho; simp only [ho] at h; exact ih _ _ h
    · rename_i o ho
      simp only [ho] at h
      split
      · rename_i hw
        simp only [hw, if_true] at h
        refine ⟨h.1, ?_⟩
        have h := h.2
        generalize (o.semAt F.round a.eval).run P w = r at *
        cases r with
        | ok x w' =>
          cases x <;> simp only [Oper.uponIn] at h ⊢ <;>
            first
              | exact ih _ _ h
              | exact ⟨h.1, CallsIn.mono h.2 (fun e w'' he => by cases e <;> first | exact ih _ _ he | exact hp _ _ _ he | exact hlet he)⟩
              | exact ⟨h.1, RowsIn.mono h.2 (fun _ _ he => ih _ _ he)⟩
              | exact ⟨h.1, RoundIn.mono h.2 (fun e w'' he => by cases e <;> first | exact ih _ _ he | exact hp _ _ _ he | exact hlet he)⟩
        | halt x w' => cases x <;> simp only [Oper.uponIn] at h ⊢ <;> first | exact hp _ _ _ h | exact h
      · rename_i hw
        simp only [hw] at h
        exact ⟨h.1, ih _ _ h.2⟩

theorem Good.ops {ro : Option Nat} {ops : Array Oper} {l : List Oper} {A : AAct} {r : Res} (h : Good X P (.ops ro ops l) A S r) : ∃ A' S', r = .exit .normal A' S' := by
  cases r with
  | exit x A' S' => obtain ⟨rfl, _⟩ := h; exact ⟨A', S', rfl⟩
  | val v S' => exact h.elim

theorem ops_ok (hX : XOk X P) (hs : Sound X P rec) {ro : Option Nat} {ops : Array Oper} : ∀ {l : List Oper} {A : AAct} {S : ASt} {r : Res}, stOps X rec ro ops l A S = some r → Good X P (.ops ro ops l) A S r := by
  intro l
  induction l with
  | nil =>
    intro A S r he
    cases he
    refine ⟨rfl, fun i _ E w a rc h ha hr => ?_⟩
    exact ⟨E, .normal, ha, Post.refl h⟩
  | cons o os ih =>
    intro A S r he
    simp only [stOps] at he
    rcases oI_some he with ⟨hw, he⟩ | ⟨hw, he⟩
    · rw [onS_eq, bump_eq] at he
      obtain ⟨A1, S1, e1, e2⟩ := oP_some he
      have g := ih e2
      obtain ⟨A', S', rfl⟩ := g.ops
      refine ⟨rfl, fun i hi E w a rc h ha hr => ?_⟩
      obtain ⟨ho, hos⟩ := drop_cons hi
      rw [List.length_cons, List.range'_succ]
      simp only [wpOpsIn, ho]
      rw [← aWanted_eq ha, hw]
      simp only [if_true]
      refine aOp_ok hX hs e1 h ha hr fun E1 a1 w1 ha1 hp1 => ?_
      exact wpOpsIn_mono (fun e a w => Ends.after hp1) _ _ _ (g.2 (i + 1) hos E1 w1 a1 rc hp1.rep ha1 (hr.mono hp1.le))
    · obtain ⟨A1, e1, e2⟩ := oB_some he
      have g := ih e2
      obtain ⟨A', S', rfl⟩ := g.ops
      refine ⟨rfl, fun i hi E w a rc h ha hr => ?_⟩
      obtain ⟨ho, hos⟩ := drop_cons hi
      rw [List.length_cons, List.range'_succ]
      simp only [wpOpsIn, ho]
      rw [← aWanted_eq ha, hw]
      simp only [Bool.false_eq_true, if_false]
      exact ⟨fun _ _ => trivial, g.2 (i + 1) hos E w _ rc h (aput_ok ha .undef e1) hr⟩

/-! ### a scope without a jump -/
section
variable {F : Fence} {n : Nat} {Q : Exit → Act → World → Prop} {a : Act} {b : Frame} {k : List Item} {cs : List Frame}
theorem stepR_scope {c : Code} : step P (lone (b.atR a (.code (.scope c) :: k)) cs w) = .next (lone (b.atR a (.code c :: .inScope c :: k)) cs w) :=
  step_lone_go (by simp [stepG, stepG.exec, Frame.atR])
theorem stepR_inScope {c : Code} : step P (lone (b.atR a (.inScope c :: k)) cs w) = .next (lone (b.atR a k) cs w) :=
  step_lone_go (by simp [stepG, stepG.exec, Frame.atR])

theorem wpIn_scope {c : Code} (h : c.wpIn F n P (fun e a w => (∀ l, e ≠ .goto l) ∧ Q e a w) a w) : (Code.scope c).wpIn F n P Q a w := by
  intro b k cs hro hb hr
  have h0 : (lone (b.atR a (.code (.scope c) :: k)) cs w).fenced P F := fenced_calm hb hr rfl
  obtain ⟨e, a₁, w₁, ⟨hg, hq⟩, harr⟩ := h b (.inScope c :: k) cs hro hb hr
  cases e with
  | normal => exact ⟨.normal, a₁, w₁, hq, .head h0 stepR_scope (StepsIn.trans harr (.one (fenced_calm hb hr rfl) stepR_inScope))⟩
  | exit id =>
    have hx : exitTo id (.inScope c :: k) = exitTo id k := by simp [exitTo]
    exact ⟨.exit id, a₁, w₁, hq, fun k' hk => .head h0 stepR_scope (harr.1 k' (by rw [hx]; exact hk)),
      fun hr' hk => let ⟨k₁, h1, h2⟩ := harr.2 hr' (by rw [hx]; exact hk); ⟨k₁, h1, .head h0 stepR_scope h2⟩⟩
  | goto l => exact absurd rfl (hg l)
  | ret => exact ⟨_, a₁, w₁, hq, .of_steps (.one h0 stepR_scope) harr⟩
  | panic ch => exact ⟨_, a₁, w₁, hq, .of_steps (.one h0 stepR_scope) harr⟩
  | outgrown => exact ⟨_, a₁, w₁, hq, .of_steps (.one h0 stepR_scope) harr⟩
end
end Go.Ax
namespace Go.Ax
variable {P : Program} {E : Env} {S : ASt} {w : World} {X : XT} {rec : Rec}

noncomputable def DrawSound (X : XT) (P : Program) (rec : Rec) : Prop := ∀ ops A S r, aDraw X rec ops A S = some r → ∃ A' S', r = .exit .normal A' S' ∧
  ∀ id E w a rc, Rep X.G E S w → ActR E A a → (Code.region id ops true).wpIn (FW rc) 0 P (Ends X.G E S w .normal A' S') a w

theorem Good.loop {ro : Option Nat} {c : Code} {A : AAct} {r : Res} (h : Good X P (.loop ro c) A S r) : ∃ x A' S', r = .exit x A' S' := by
  cases r with
  | exit x A' S' => exact ⟨x, A', S', rfl⟩
  | val v S' => exact h.elim
theorem Good.val {f : FuncId} {args : Array Value} {A : AAct} {r : Res} (h : Good X P (.call f args) A S r) : ∃ v S', r = .val v S' := by
  cases r with
  | exit x A' S' => exact h.elim
  | val v S' => exact ⟨v, S', rfl⟩
theorem Good.lv {fn : Func} {ds : List ADef} {A : AAct} {r : Res} (h : Good X P (.leave fn ds) A S r) : ∃ v S', r = .val v S' := by
  cases r with
  | exit x A' S' => exact h.elim
  | val v S' => exact ⟨v, S', rfl⟩

theorem evB (h : Rep X.G E S w) {A : AAct} {a : Act} (ha : ActR E A a) {e : Operand} {c : Bool} (he : aev X.G A e = some (.bool c)) : a.eval e = .bool c := by
  have := aev_ok h ha _ _ he
  generalize a.eval e = v at this
  cases this
  rfl

theorem stLoopIn_ok (h : Rep X.G E S w) {ro rc : Option Nat} {ps : Array Tmp} {assign body : Code} {A : AAct} {a : Act} (ha : ActR E A a) (hr : RoR E ro rc) {S3 : ASt} {ds1 : List ADef} (hc2 : S.ctr + 2 ≤ top)
    (he : stLoopIn ro ps assign body A S.mem S.ctr (S.ctr + 1) (S.ctr + 2) = some (S3, ds1)) (fn : FuncId) :
    ∃ l mark w1 E1 i, (Instr.enterLoop fn a.tmps ps assign body rc).run P w = .ok (l, mark) w1 ∧ E1 (S.ctr + 1) = some i ∧ i.c = l ∧ ActR E1 ⟨A.tmps, A.n, ds1⟩ { a with defers := mark ++ a.defers } ∧
      Post X.G (S.ctr ≤ ·) E S w E1 S3 w1 := by
  have hE0 : E S.ctr = none := h.fresh (Nat.le_refl _)
  have hE1 : E (S.ctr + 1) = none := h.fresh (by omega)
  have hR2 : Rep X.G E ⟨S.mem, S.ctr + 2⟩ w := h.ctr (by show S.ctr ≤ S.ctr + 2; omega)
  obtain ⟨tm0, n0', ds0⟩ := A
  unfold stLoopIn at he
  simp only at he
  cases ro with
  | none =>
    cases he
    have hrc : rc = none := by
      cases rc with
      | none => rfl
      | some l => exact hr.elim
    subst hrc
    have p1 := Rep.new (o := .defd) (o' := .deferred (some [])) (i := ⟨w.heap.size, 0, 0, 0⟩) hR2 hE0 (by show S.ctr < S.ctr + 2; omega) (by omega) rfl rfl
    have hE1' : (E.put S.ctr ⟨w.heap.size, 0, 0, 0⟩) (S.ctr + 1) = none := by rw [Env.put_ne (by omega)]; exact hE1
    have p2 := Rep.new (o := .loop .ready none n0' tm0 ps assign body S.ctr) (o' := .loop { state := .ready, pending := none, fn, tmps := a.tmps, params := ps, assign, body, defers := w.heap.size })
      (i := ⟨w.heap.size + 1, 0, 0, 0⟩) p1.rep hE1' (by show S.ctr + 1 < S.ctr + 2; omega) (by omega) (by simp)
      ⟨fn, a.tmps, w.heap.size, rfl, (ha.tr.mono p1.le).mono (Env.put_le hE1'), ⟨w.heap.size, 0, 0, 0⟩, by rw [Env.put_ne (by omega)]; exact Env.put_self, rfl⟩
    refine ⟨_, _, _, (E.put S.ctr ⟨w.heap.size, 0, 0, 0⟩).put (S.ctr + 1) ⟨w.heap.size + 1, 0, 0, 0⟩, ⟨w.heap.size + 1, 0, 0, 0⟩, run_enterLoop_outer fn a.tmps ps assign body, Env.put_self, rfl, ?_, ?_⟩
    · refine ⟨(ha.tr.mono p1.le).mono p2.le, ha.top, .cons ?_ ((ha.ds.mono p1.le).mono p2.le)⟩
      exact DR.mark (i := ⟨w.heap.size, 0, 0, 0⟩) (by rw [Env.put_ne (by omega)]; exact Env.put_self)
    · have p3 := (p1.mono (N' := (S.ctr ≤ ·)) (fun b hb => by rw [hb]; exact Nat.le_refl _)).trans (p2.mono (N' := (S.ctr ≤ ·)) (fun b hb => by rw [hb]; exact Nat.le_succ _))
      exact { p3 with ctr := Nat.le_trans (by show S.ctr ≤ S.ctr + 2; omega) p3.ctr }
  | some l0 =>
    simp only at he
    split at he
    case h_2 => cases he
    rename_i st0 p0 n0 t0 ps0 as0 b0 d0 hm
    cases he
    cases rc with
    | none => exact hr.elim
    | some lc =>
    obtain ⟨i0, hi0, rfl⟩ := hr
    obtain ⟨fn0, tmps0, d0', g1, g2, jd, g3, g4⟩ := getLoop_rep h hm hi0
    have hrun : (Instr.enterLoop fn a.tmps ps assign body (some i0.c)).run P w = .ok (w.heap.size, []) (w.alloc (.loop { state := .ready, pending := none, fn, tmps := a.tmps, params := ps, assign, body, defers := d0' })) := by
      unfold Instr.enterLoop
      simp only [Sem.run_bind, run_getLoop g1, run_newObj_alloc, Result.andThen, Sem.run_pure]
    have p2 := Rep.new (o := .loop .ready none n0' tm0 ps assign body d0) (o' := .loop { state := .ready, pending := none, fn, tmps := a.tmps, params := ps, assign, body, defers := d0' })
      (i := ⟨w.heap.size, 0, 0, 0⟩) hR2 hE1 (by show S.ctr + 1 < S.ctr + 2; omega) (by omega) rfl
      ⟨fn, a.tmps, d0', rfl, ha.tr.mono (Env.put_le hE1), jd, Env.put_le hE1 _ _ g3, g4⟩
    refine ⟨_, _, _, E.put (S.ctr + 1) ⟨w.heap.size, 0, 0, 0⟩, ⟨w.heap.size, 0, 0, 0⟩, hrun, Env.put_self, rfl, ?_, ?_⟩
    · exact ⟨ha.tr.mono p2.le, ha.top, ha.ds.mono p2.le⟩
    · have p3 := p2.mono (N' := (S.ctr ≤ ·)) (fun b hb => by rw [hb]; exact Nat.le_succ _)
      exact { p3 with ctr := Nat.le_trans (by show S.ctr ≤ S.ctr + 2; omega) p3.ctr }

theorem stRange_ok (hX : XOk X P) (hs : Sound X P rec) {ro : Option Nat} {f : Operand} {ps : Array Tmp} {assign body : Code} {A : AAct} {r : Res} {fv : Value} (hfv : aev X.G A f = some fv) (he : stRange rec ro fv ps assign body A S = some r) :
    Good X P (.code ro (.rangeFunc f ps assign body)) A S r := by
  unfold stRange at he
  split at he
  case h_2 => cases he
  rename_i k first cap m c
  simp only [bump_eq] at he
  obtain ⟨hc2, he⟩ := oT_some he
  have hc2 : c + 1 + 1 ≤ top := Nat.le_of_ble_eq_true hc2
  obtain ⟨S3, ds1, e1, he⟩ := oP_some he
  obtain ⟨v, S4, e2, he⟩ := oV_some he
  have g2 := hs _ _ _ _ e2
  unfold stLoopOut at he
  obtain ⟨tmps, n, ds⟩ := A
  simp only at he
  split at he
  case h_2 => cases he
  rename_i st pending n' t' ps' as' b' d' hm
  have hst : st ≠ .busy := by intro e; subst e; simp at he
  have key : ∃ x A' S', r = .exit x A' S' ∧ ∀ E w a rc, Rep X.G E S4 w → ActR E ⟨tmps, n, ds1⟩ a → RoR E ro rc → ∀ i, E (c + 1) = some i →
      ∃ jump w4, (Instr.endLoop i.c).run P w = .ok jump w4 ∧ (match jump with
       | none => Ends X.G E S4 w x A' S' .normal a w4
       | some cc => cc.wpIn (FW rc) 0 P (Ends X.G E S4 w x A' S') a w4) := by
    have hlow : ∀ {E w i}, Rep X.G E S4 w → E (c + 1) = some i → ∃ w4, (Instr.endLoop i.c).run P w = .ok pending w4 ∧ Post X.G (S4.ctr ≤ ·) E S4 w E (mset S4 (c + 1) (.loop .exhausted pending n' t' ps' as' b' d')) w4 := by
      intro E w i h hi
      obtain ⟨fn, tm, dd, q1, q2, q3⟩ := getLoop_rep h hm hi
      exact ⟨_, run_endLoop q1 hst, h.updObj hm hi (by omega) q1 ⟨fn, tm, dd, rfl, q2, q3⟩⟩
    cases pending with
    | none =>
      refine ⟨.normal, ⟨tmps, n, ds1⟩, mset S4 (c + 1) (.loop .exhausted none n' t' ps' as' b' d'), ?_, fun E w a rc h ha hr i hi => ?_⟩
      · cases st <;> simp at he hst ⊢ <;> exact he.symm
      · obtain ⟨w4, q1, q2⟩ := hlow h hi
        exact ⟨_, _, q1, E, .normal, ha, q2⟩
    | some cc =>
      have e5 : rec (.code ro cc) ⟨tmps, n, ds1⟩ (mset S4 (c + 1) (.loop .exhausted (some cc) n' t' ps' as' b' d')) = some r := by
        cases st <;> simp at he hst ⊢ <;> exact he
      have g5 := hs _ _ _ _ e5
      obtain ⟨x, A', S', rfl⟩ := g5.exit
      refine ⟨x, A', S', rfl, fun E w a rc h ha hr i hi => ?_⟩
      obtain ⟨w4, q1, q2⟩ := hlow h hi
      exact ⟨_, _, q1, wpIn_mono (g5 E w4 a rc q2.rep ha hr) fun e a w => Ends.after q2⟩
  obtain ⟨x, A', S', rfl, key⟩ := key
  intro E w a rc h ha hr
  refine wpIn_rangeFunc fun fn _ => ?_
  obtain ⟨l, mark, w1, E1, i, k1, k2, k3, k4, k5⟩ := stLoopIn_ok h ha hr hc2 e1 fn
  have hf := aev_ok h ha _ _ hfv
  generalize hff : a.eval f = ff at hf
  cases hf with
  | func hfn s1 q1 s2 q2 =>
  rename_i fn' f1 c1
  cases hfn
  rw [cat3_eq] at g2
  have hargs : ArrR E1 (first ++ #[.func (.yield (c + 1)) #[] #[]] ++ cap) (f1 ++ #[.func (.yield l) #[] #[]] ++ c1) := by
    refine ArrR.append (ArrR.append (ArrR.mono k5.le ⟨s1, q1⟩) (.one ?_)) (ArrR.mono k5.le ⟨s2, q2⟩)
    rw [← k3]
    exact .func' (.yield k2) .nil .nil
  obtain ⟨p1, p2⟩ := g2 E1 w1 _ k5.rep hargs
  refine ⟨l, mark, w1, { target := .fn (.func k) c1, args := f1 ++ #[.func (.yield l) #[] #[]] }, w1, k, f1 ++ #[.func (.yield l) #[] #[]] ++ c1, w1, k1, ?_, fun _ _ => trivial, ?_, fun hd => by simp [FW, Fence.wide] at hd, ?_⟩
  · simp only [resolve, rangeCall, hff, Deferred.ofValue]
    simp [Act.eval]
  · simpa [invoke] using p1
  · refine CallsIn.mono (F := FW rc) p2 fun e w3 hg => ?_
    obtain ⟨v', rfl, E3, hv, hp3⟩ := hg
    have hp3' : Post X.G (c ≤ ·) E1 S3 w1 E3 S4 w3 := hp3.mono fun b hb => Nat.le_trans k5.ctr hb
    have hall := k5.trans hp3'
    obtain ⟨jump, w4, z1, z2⟩ := key E3 w3 _ rc hp3.rep (k4.mono hp3.le) (hr.mono hall.le) i (hp3.le _ _ k2)
    rw [k3] at z1
    refine ⟨jump, w4, z1, ?_⟩
    cases jump with
    | none => exact Ends.after hall z2
    | some cc => exact wpIn_mono z2 fun e a w => Ends.after hall

theorem code_ok (hX : XOk X P) (hs : Sound X P rec) (hD : DrawSound X P rec) {ro : Option Nat} {c : Code} {A : AAct} {r : Res} (he : stCode X rec ro c A S = some r) : Good X P (.code ro c) A S r := by
  unfold stCode at he
  split at he
  · cases he
    exact fun E w a rc h ha hr => wpIn_skip ⟨E, .normal, ha, Post.refl h⟩
  · cases he
    exact fun E w a rc h ha hr => wpIn_label ⟨E, .normal, ha, Post.refl h⟩
  · rename_i x y
    rcases oN_some he with ⟨A1, S1, e1, e2⟩ | ⟨z, A1, S1, e1, e2, e3⟩
    · have g1 := hs _ _ _ _ e1
      have g2 := hs _ _ _ _ e2
      obtain ⟨z, A', S', rfl⟩ := g2.exit
      intro E w a rc h ha hr
      refine wpIn_seq (wpIn_mono (g1 E w a rc h ha hr) fun e a1 w1 ⟨E1, hx, ha1, hp1⟩ => ?_)
      cases hx
      exact wpIn_mono (g2 E1 w1 a1 rc hp1.rep ha1 (hr.mono hp1.le)) fun e a w => Ends.after hp1
    · subst e3
      have g1 := hs _ _ _ _ e1
      intro E w a rc h ha hr
      refine wpIn_seq (wpIn_mono (g1 E w a rc h ha hr) fun e a1 w1 ⟨E1, hx, ha1, hp1⟩ => ?_)
      cases hx with
      | normal => exact absurd rfl e2
      | exit id => exact ⟨E1, .exit id, ha1, hp1⟩
      | goto l => exact ⟨E1, .goto l, ha1, hp1⟩
      | ret => exact ⟨E1, .ret, ha1, hp1⟩
  · rename_i e x y
    unfold stCond at he
    split at he
    case h_2 => cases he
    rename_i cb hcb
    rcases oI_some he with ⟨rfl, he⟩ | ⟨rfl, he⟩
    · have g1 := hs _ _ _ _ he
      obtain ⟨z, A', S', rfl⟩ := g1.exit
      exact fun E w a rc h ha hr => wpIn_cond_true (evB h ha hcb) (g1 E w a rc h ha hr)
    · have g1 := hs _ _ _ _ he
      obtain ⟨z, A', S', rfl⟩ := g1.exit
      exact fun E w a rc h ha hr => wpIn_cond_false (evB h ha hcb) (g1 E w a rc h ha hr)
  · rename_i id b
    unfold stBlock at he
    obtain ⟨z, A1, S1, e1, e2⟩ := oX_some he
    have g1 := hs _ _ _ _ e1
    cases z with
    | exit j =>
      simp only at e2
      rcases oI_some e2 with ⟨hj, e2⟩ | ⟨hj, e2⟩
      · cases e2
        have hj := beq_t hj
        subst hj
        intro E w a rc h ha hr
        refine wpIn_block (wpIn_mono (g1 E w a rc h ha hr) fun e a1 w1 ⟨E1, hx, ha1, hp1⟩ => ?_)
        cases hx
        simp only [Exit.inBlock, if_true]
        exact ⟨E1, .normal, ha1, hp1⟩
      · cases e2
        have hj := beq_f hj
        intro E w a rc h ha hr
        refine wpIn_block (wpIn_mono (g1 E w a rc h ha hr) fun e a1 w1 ⟨E1, hx, ha1, hp1⟩ => ?_)
        cases hx
        simp only [Exit.inBlock, if_neg hj]
        exact ⟨E1, .exit j, ha1, hp1⟩
    | normal =>
      cases e2
      intro E w a rc h ha hr
      refine wpIn_block (wpIn_mono (g1 E w a rc h ha hr) fun e a1 w1 ⟨E1, hx, ha1, hp1⟩ => ?_)
      cases hx
      exact ⟨E1, .normal, ha1, hp1⟩
    | goto l =>
      cases e2
      intro E w a rc h ha hr
      refine wpIn_block (wpIn_mono (g1 E w a rc h ha hr) fun e a1 w1 ⟨E1, hx, ha1, hp1⟩ => ?_)
      cases hx
      exact ⟨E1, .goto l, ha1, hp1⟩
    | ret =>
      cases e2
      intro E w a rc h ha hr
      refine wpIn_block (wpIn_mono (g1 E w a rc h ha hr) fun e a1 w1 ⟨E1, hx, ha1, hp1⟩ => ?_)
      cases hx
      exact ⟨E1, .ret, ha1, hp1⟩
  · rename_i b
    have g1 := hs _ _ _ _ he
    obtain ⟨z, A', S', rfl⟩ := g1.loop
    obtain ⟨mm, g1⟩ := g1
    exact fun E w a rc h ha hr => wpIn_loop_rounds mm (g1 E w a rc h ha hr)
  · rename_i b
    unfold stScope at he
    obtain ⟨z, A1, S1, e1, e2⟩ := oX_some he
    have g1 := hs _ _ _ _ e1
    cases z with
    | goto l => cases e2
    | normal =>
      cases e2
      intro E w a rc h ha hr
      refine wpIn_scope (wpIn_mono (g1 E w a rc h ha hr) fun e a1 w1 ⟨E1, hx, ha1, hp1⟩ => ?_)
      cases hx
      exact ⟨by simp, E1, .normal, ha1, hp1⟩
    | exit id =>
      cases e2
      intro E w a rc h ha hr
      refine wpIn_scope (wpIn_mono (g1 E w a rc h ha hr) fun e a1 w1 ⟨E1, hx, ha1, hp1⟩ => ?_)
      cases hx
      exact ⟨by simp, E1, .exit id, ha1, hp1⟩
    | ret =>
      cases e2
      intro E w a rc h ha hr
      refine wpIn_scope (wpIn_mono (g1 E w a rc h ha hr) fun e a1 w1 ⟨E1, hx, ha1, hp1⟩ => ?_)
      cases hx
      exact ⟨by simp, E1, .ret, ha1, hp1⟩
  · rename_i id ops draw
    rcases oI_some he with ⟨rfl, he⟩ | ⟨rfl, he⟩
    · obtain ⟨A', S', rfl, g⟩ := hD _ _ _ _ he
      exact fun E w a rc h ha hr => g id E w a rc h ha
    · have g1 := ops_ok hX hs he
      obtain ⟨A', S', rfl⟩ := g1.ops
      intro E w a rc h ha hr
      refine wpIn_region ?_
      have := g1.2 0 (by simp) E w a rc h ha hr
      rw [Array.length_toList] at this
      rwa [List.range_eq_range']
  · cases he
    exact fun E w a rc h ha hr => wpIn_exit ⟨E, .exit _, ha, Post.refl h⟩
  · cases he
    exact fun E w a rc h ha hr => wpIn_goto ⟨E, .goto _, ha, Post.refl h⟩
  · cases he
    exact fun E w a rc h ha hr => wpIn_ret ⟨E, .ret, ha, Post.refl h⟩
  · rename_i f ps assign body
    obtain ⟨fv, e1, e2⟩ := oB_some he
    exact stRange_ok hX hs e1 e2
  · cases he
end Go.Ax
namespace Go.Ax
variable {P : Program} {E : Env} {S : ASt} {w : World} {X : XT} {rec : Rec}

theorem loop_ok (hs : Sound X P rec) {ro : Option Nat} {c : Code} {A : AAct} {r : Res} (he : oN (rec (.code ro c) A S) (rec (.loop ro c)) = some r) : Good X P (.loop ro c) A S r := by
  rcases oN_some he with ⟨A1, S1, e1, e2⟩ | ⟨z, A1, S1, e1, e2, e3⟩
  · have g1 := hs _ _ _ _ e1
    have g2 := hs _ _ _ _ e2
    obtain ⟨z, A', S', rfl⟩ := g2.loop
    obtain ⟨m, g2⟩ := g2
    refine ⟨m + 1, fun E w a rc h ha hr => ?_⟩
    rw [roundsIn_succ]
    refine wpIn_mono (g1 E w a rc h ha hr) fun e a1 w1 ⟨E1, hx, ha1, hp1⟩ => ?_
    cases hx
    have := g2 E1 w1 a1 rc hp1.rep ha1 (hr.mono hp1.le)
    have mono : ∀ (m : Nat) (a : Act) (w2 : World), Code.roundsIn (FW rc) 0 P c (Ends X.G E1 S1 w1 z A' S') m a w2 → Code.roundsIn (FW rc) 0 P c (Ends X.G E S w z A' S') m a w2 := by
      intro m
      induction m with
      | zero => exact fun _ _ h => h
      | succ m ih =>
        intro a w2 h
        rw [roundsIn_succ] at h ⊢
        refine wpIn_mono h fun e a w hq => ?_
        cases e <;> first | exact ih _ _ hq | exact Ends.after hp1 hq
    exact mono _ _ _ this
  · subst e3
    have g1 := hs _ _ _ _ e1
    refine ⟨1, fun E w a rc h ha hr => ?_⟩
    rw [roundsIn_succ]
    refine wpIn_mono (g1 E w a rc h ha hr) fun e a1 w1 ⟨E1, hx, ha1, hp1⟩ => ?_
    cases hx with
    | normal => exact absurd rfl e2
    | exit id => exact ⟨E1, .exit id, ha1, hp1⟩
    | goto l => exact ⟨E1, .goto l, ha1, hp1⟩
    | ret => exact ⟨E1, .ret, ha1, hp1⟩

theorem argsTr_get : ∀ (l : List Value) (k : Nat) (t : Tr Value) (j : Nat), k + l.length ≤ top → (argsTr l k t).get j = if k ≤ j ∧ j < k + l.length then l[j - k]? else t.get j := by
  intro l
  induction l with
  | nil => intro k t j _; simp only [argsTr, List.length_nil]; rw [if_neg (by omega)]
  | cons v l ih =>
    intro k t j hk
    simp only [List.length_cons] at hk
    simp only [argsTr, List.length_cons]
    rw [ih _ _ _ (by omega), Tr.get_set _ _ _ _ _ (top_lt (by omega))]
    by_cases h1 : j = k
    · subst h1
      rw [if_neg (by omega), if_pos rfl, if_pos (by omega)]
      simp
    · by_cases h2 : k + 1 ≤ j ∧ j < k + 1 + l.length
      · rw [if_pos h2, if_pos (by omega)]
        rw [show j - k = (j - (k + 1)) + 1 from by omega, List.getElem?_cons_succ]
      · rw [if_neg h2, if_neg h1, if_neg (by omega)]

theorem enter_ok {fn : Func} {args args' : Array Value} {A : AAct} (he : enter fn args = some A) (ha : ArrR E args args') :
    ActR E A { tmps := args' ++ Array.replicate (fn.ntmps - args'.size) undef, defers := [] } := by
  unfold enter at he
  rw [force_eq] at he
  obtain ⟨h1, h2⟩ := oT_some he
  cases h2
  have h1 := Nat.le_of_ble_eq_true h1
  refine ⟨⟨by simp [ha.1], fun j => ?_⟩, h1, .nil⟩
  rw [argsTr_get _ _ _ _ (by simpa using by omega)]
  simp only [Nat.zero_le, true_and, Nat.zero_add, Array.length_toList, Nat.sub_zero]
  by_cases hj : j < args.size
  · rw [if_pos hj]
    have hj' : j < args'.size := ha.1 ▸ hj
    have := ha.2 j hj hj'
    have e1 : (args' ++ Array.replicate (fn.ntmps - args'.size) undef).getD j undef = args'[j] := by
      rw [Array.getD_eq_getD_getElem?, Array.getElem?_append_left hj']
      simp [hj']
    rw [e1]
    simpa [hj] using this
  · rw [if_neg hj, Tr.get_nil]
    have hj' : ¬ j < args'.size := ha.1 ▸ hj
    have e1 : (args' ++ Array.replicate (fn.ntmps - args'.size) undef).getD j undef = undef := by
      rw [Array.getD_eq_getD_getElem?, Array.getElem?_append_right (by omega), Array.getElem?_replicate]
      split <;> rfl
    rw [e1]
    exact .undef

theorem cell_ok (hX : XOk X P) (h : Rep X.G E S w) {t : TypeId} {v v' r : Value} (he : aLoad X.T X.G S t v = some r) (hv : VR E v v') :
    ∃ r', (do loadVar t (← asAddr v') : Sem Value).run P w = .ok r' w ∧ VR E r r' := by
  obtain ⟨r', h1, h2⟩ := aLoad_ok hX.T h he hv
  refine ⟨r', ?_, h2⟩
  unfold aLoad at he
  split at he
  case h_2 => cases he
  cases hv with
  | ptr ha =>
  simpa [Instr.loadAt, Instr.sureAddr, asAddr] using h1

noncomputable def resF (tm : Array Value) : ResultVar → Sem Value
  | .tmp t => pure (tm.getD t undef)
  | .cell c t => do loadVar t (← asAddr (tm.getD c undef))

theorem run_mapM_cons {α β : Type} {f : α → Sem β} {x : α} {xs : List α} {y : β} {ys : List β} (h1 : (f x).run P w = .ok y w) (h2 : (List.mapM f xs).run P w = .ok ys w) :
    (List.mapM f (x :: xs)).run P w = .ok (y :: ys) w := by
  rw [List.mapM_cons, Sem.run_bind, h1]
  simp only [Result.andThen]
  rw [Sem.run_bind, h2]
  simp [Result.andThen]

theorem resVals_ok (hX : XOk X P) (h : Rep X.G E S w) {A : AAct} {a : Act} (ha : ActR E A a) : ∀ (rs : List ResultVar) (vs : List Value), resVals X A S rs = some vs →
    ∃ vs', (List.mapM (resF a.tmps) rs).run P w = .ok vs' w ∧ LR E vs vs' := by
  intro rs
  induction rs with
  | nil => intro vs e; cases e; exact ⟨[], by simp, .nil⟩
  | cons r rs ih =>
    intro vs e
    cases r with
    | tmp t =>
      simp only [resVals] at e
      obtain ⟨us, e1, e2⟩ := oB_some e
      cases e2
      obtain ⟨us', h1, h2⟩ := ih us e1
      rw [orU_eq]
      exact ⟨_, run_mapM_cons (y := a.tmps.getD t undef) (by simp [resF]) h1, .cons (ha.tr.2 t) h2⟩
    | cell c t =>
      simp only [resVals] at e
      obtain ⟨u, e0, e⟩ := oB_some e
      obtain ⟨us, e1, e2⟩ := oB_some e
      cases e2
      obtain ⟨us', h1, h2⟩ := ih us e1
      rw [orU_eq] at e0
      obtain ⟨u', h3, h4⟩ := cell_ok hX h e0 (ha.tr.2 c)
      exact ⟨u' :: us', run_mapM_cons h3 h1, .cons h4 h2⟩

theorem LR.arr {l l' : List Value} (h : LR E l l') : ArrR E l.toArray l'.toArray := by
  induction h with
  | nil => exact .nil
  | @cons v v' l l' h _ ih =>
    refine ⟨by have := ih.1; simp at this ⊢; exact this, fun i h1 h2 => ?_⟩
    cases i with
    | zero => exact h
    | succ i => exact ih.2 i (by simpa using h1) (by simpa using h2)

noncomputable def oneOr : List Value → Value
  | [v] => v
  | vs => .tuple vs.toArray

theorem results_ok (hX : XOk X P) (h : Rep X.G E S w) {A : AAct} {a : Act} (ha : ActR E A a) {fn : Func} {vs : List Value} (he : resVals X A S fn.results.toList = some vs) :
    ∃ v', (results fn a.tmps).run P w = .ok v' w ∧ VR E (oneOr vs) v' := by
  obtain ⟨vs', h1, h2⟩ := resVals_ok hX h ha _ _ he
  have e1 : (results fn a.tmps).run P w = .ok (if hh : vs'.toArray.size = 1 then vs'.toArray[0] else .tuple vs'.toArray) w := by
    have e0 : results fn a.tmps = (do let vs ← fn.results.mapM (resF a.tmps); pure (if h : vs.size = 1 then vs[0] else .tuple vs)) := by
      unfold results
      congr 1
    rw [e0, Array.mapM_eq_mapM_toList, Sem.run_bind, map_eq_pure_bind, Sem.run_bind, h1]
    rfl
  refine ⟨_, e1, ?_⟩
  cases h2 with
  | nil => exact .tuple' .nil
  | @cons v v' l l' hv ht =>
    cases ht with
    | nil => exact hv
    | @cons u u' l l' hu ht =>
      rw [dif_neg (by simp)]
      exact .tuple' (LR.arr (.cons hv (.cons hu ht)))

theorem leave_ok (hX : XOk X P) (hs : Sound X P rec) {fn : Func} {ds : List ADef} {A : AAct} {r : Res} (he : stLeave X rec fn ds A S = some r) : Good X P (.leave fn ds) A S r := by
  unfold stLeave at he
  split at he
  · obtain ⟨vs, e1, e2⟩ := oB_some he
    have hr : r = .val (oneOr vs) S := by
      split at e2 <;> cases e2 <;> first | rfl | skip
      rename_i h
      cases vs with
      | nil => rfl
      | cons v l => cases l with
        | nil => exact absurd rfl (h v)
        | cons u l => rfl
    subst hr
    intro E w a ds' R h ha hd hR
    cases hd
    obtain ⟨v', h1, h2⟩ := results_ok hX h ha e1
    exact ⟨v', h1, hR _ _ ⟨v', rfl, E, h2, Post.refl h⟩⟩
  · rename_i r0 ds0
    split at he
    case h_2 => cases he
    rename_i hm
    obtain ⟨ht, e1⟩ := oT_some he
    have ht : r0 < top := by simpa [Nat.blt_eq] using ht
    have g1 := hs _ _ _ _ e1
    obtain ⟨v, S', rfl⟩ := g1.lv
    intro E w a ds' R h ha hd hR
    cases hd with
    | cons hd1 hd2 =>
    cases hd1 with
    | @mark _ i hi =>
    obtain ⟨i', o', q1, q2, q3⟩ := h.obj r0 _ hm
    rw [hi] at q1; cases q1
    cases q3
    have hp : Post X.G (S.ctr ≤ ·) E S w E (mdel S r0) (w.putObj i.c (.deferred none)) := by
      have hm0 : ∀ b o, (mdel S r0).mem.get b = some o → b ≠ r0 ∧ S.mem.get b = some o := fun b o e => by
        rw [mdel_get ht] at e
        split at e
        · cases e
        · exact ⟨by assumption, e⟩
      have hne : ∀ b o j, (mdel S r0).mem.get b = some o → E b = some j → j.c ≠ i.c := fun b o j e1 e2 e3 => (hm0 b o e1).1 (h.inj _ _ _ _ _ _ (hm0 b o e1).2 hm e2 hi e3)
      refine ⟨Env.le_refl E, fun b h1 h2 => absurd h1 h2, ⟨h.dom, fun b o e => ?_, fun b1 b2 o1 o2 i1 i2 e1 e2 => h.inj b1 b2 o1 o2 i1 i2 (hm0 _ _ e1).2 (hm0 _ _ e2).2, fun g o hg => ?_, fun g o hg b o1 i1 e1 => h.apart g o hg b o1 i1 (hm0 _ _ e1).2⟩,
        rfl, rfl, rfl, by simp, fun k hk hn => ?_, fun b o j e1 e2 => .inr ⟨b, o, j, (hm0 _ _ e1).2, e2, rfl⟩, Nat.le_refl _, fun b o e => .inl ⟨o, (hm0 _ _ e).2⟩⟩
      · obtain ⟨j, o', z1, z2, z3⟩ := h.obj b o (hm0 b o e).2
        exact ⟨j, o', z1, by rw [World.putObj_heap_other (hne b o j e z1)]; exact z2, z3⟩
      · obtain ⟨j, o', z1, z2, z3, z4, z5⟩ := h.glob g o hg
        refine ⟨j, o', z1, z2, z3, ?_, z5⟩
        rw [World.putObj_heap_other (fun e => h.apart g o hg r0 _ i hm hi e.symm)]
        exact z4
      · rw [World.putObj_heap_other (fun e => hn r0 _ i hm hi e.symm)]
    refine ⟨by simp, .inl ⟨i.c, _, rfl, run_takeDeferred q2, ?_⟩⟩
    exact g1 E _ a _ R hp.rep ha hd2 fun e w' hg => hR e w' (Gives.after hp hg)
  · rename_i k cap args ds0
    obtain ⟨v0, S1, e1, e2⟩ := oV_some he
    have g1 := hs _ _ _ _ e1
    have g2 := hs _ _ _ _ e2
    obtain ⟨v, S', rfl⟩ := g2.lv
    rw [cat3_eq] at g1
    intro E w a ds' R h ha hd hR
    cases hd with
    | cons hd1 hd2 =>
    cases hd1 with
    | @call _ _ _ cap' args' hc1 hc2 =>
    have hargs : ArrR E (#[] ++ args ++ cap) (args' ++ cap') := by simpa using hc2.append hc1
    obtain ⟨p1, p2⟩ := g1 E w _ h hargs
    refine ⟨by simp, .inr ⟨fun hd => by simp [Fence.wide] at hd, .func k, cap', k, args' ++ cap', rfl, by simpa [invoke] using p1, fun _ _ => trivial, ?_⟩⟩
    refine CallsDIn.mono p2 fun e u' w' hg => ?_
    obtain ⟨rfl, v', rfl, E1, hv, hp⟩ := hg
    exact g2 E1 w' a _ R hp.rep (ha.mono hp.le) (hd2.mono hp.le) fun e w'' hg => hR e w'' (Gives.after hp hg)
  · cases he

theorem call_ok (hX : XOk X P) (hs : Sound X P rec) {f : FuncId} {args : Array Value} {A : AAct} {r : Res} (he : stCall X rec f args S = some r) : Good X P (.call f args) A S r := by
  unfold stCall at he
  obtain ⟨fn, e1, he⟩ := oB_some he
  obtain ⟨c, e2, he⟩ := oB_some he
  obtain ⟨A0, e3, he⟩ := oB_some he
  obtain ⟨x, A1, S1, e4, hx, e5⟩ := oR_some he
  have g1 := hs _ _ _ _ e4
  have g2 := hs _ _ _ _ e5
  obtain ⟨v, S', rfl⟩ := g2.lv
  intro E w args' h ha
  obtain ⟨k1, k2⟩ := hX.fn f fn e1
  refine ⟨k2 _ _, callsIn_of_wp_marks k1 e2 trivial (wpIn_mono (g1 E w _ none h (enter_ok e3 ha) trivial) fun e a1 w1 ⟨E1, hx1, ha1, hp1⟩ => ?_)⟩
  have := g2 E1 w1 a1 _ (Gives X.G E S w v S') hp1.rep ha1 ha1.ds fun e w' hg => Gives.after hp1 hg
  rcases hx with rfl | rfl <;> cases hx1 <;> exact this

end Go.Ax
namespace Go.Ax
variable {P : Program} {E : Env} {S : ASt} {w : World} {X : XT} {rec : Rec}

theorem wpSIn_mono {F : Fence} {n : Nat} {c : Code} {Q Q' : Exit → Act → List Frame → World → Prop} {a : Act} {cs : List Frame} (h : c.wpSIn F n P Q a cs w) (hq : ∀ e a cs w, Q e a cs w → Q' e a cs w) : c.wpSIn F n P Q' a cs w :=
  fun b k h1 h2 h3 h4 => let ⟨e, a', cs', w', l, q, r⟩ := h b k h1 h2 h3 h4; ⟨e, a', cs', w', l, hq _ _ _ _ q, r⟩

theorem Good.exitS {c : Code} {A : AAct} {r : Res} (h : Good X P (.codeS c) A S r) : ∃ x A' S', r = .exit x A' S' := by
  cases r with
  | exit x A' S' => exact ⟨x, A', S', rfl⟩
  | val v S' => exact h.elim
theorem Good.opsS {ops : Array Oper} {l : List Oper} {A : AAct} {r : Res} (h : Good X P (.opsS ops l) A S r) : ∃ A' S', r = .exit .normal A' S' := by
  cases r with
  | exit x A' S' => obtain ⟨rfl, _⟩ := h; exact ⟨A', S', rfl⟩
  | val v S' => exact h.elim

theorem callD_ok (hX : XOk X P) (hs : Sound X P rec) {f : FuncId} {args : Array Value} {A : AAct} {r : Res} (he : stCallD X rec f args S = some r) : Good X P (.callD f args) A S r := by
  unfold stCallD at he
  obtain ⟨fn, e1, he⟩ := oB_some he
  obtain ⟨c, e2, he⟩ := oB_some he
  obtain ⟨A0, e3, he⟩ := oB_some he
  obtain ⟨x, A1, S1, e4, hx, he⟩ := oR_some he
  obtain ⟨hde, e5⟩ := oT_some he
  have hde : A1.defers = [] := by simpa using hde
  have g1 := hs _ _ _ _ e4
  have g2 := hs _ _ _ _ e5
  obtain ⟨v, S', rfl⟩ := g2.lv
  intro E w args' h ha
  obtain ⟨k1, k2⟩ := hX.fn f fn e1
  refine ⟨k2 _ _, callsDIn_of_wpSIn k1 e2 trivial fun c₀ cs hm => wpSIn_mono (g1 E w _ c₀ cs hm h (enter_ok e3 ha)) fun e a1 cs1 w1 hq => ?_⟩
  obtain ⟨rfl, E1, hx1, ha1, hp1⟩ := hq
  have := g2 E1 w1 a1 [] (Gives X.G E S w v S') hp1.rep ha1 .nil fun e w' hg => Gives.after hp1 hg
  obtain ⟨u, hu1, hu2⟩ := this
  have hd1 : a1.defers = [] := by
    have := ha1.ds
    rw [hde] at this
    generalize a1.defers = dl at this
    cases this
    rfl
  have hc : c₀ :: cs = { c₀ with mode := .returning } :: cs := by rw [← hm]
  rcases hx with rfl | rfl <;> cases hx1 <;> exact ⟨hd1, .returning, hc, u, hu1, rfl, hu2⟩

theorem codeS_ok (hs : Sound X P rec) {c : Code} {A : AAct} {r : Res} (he : stCodeS X rec c A S = some r) : Good X P (.codeS c) A S r := by
  have base : ∀ {c : Code}, rec (.code none c) A S = some r → Good X P (.codeS c) A S r := fun {c} e => by
    have g := hs _ _ _ _ e
    obtain ⟨x, A', S', rfl⟩ := g.exit
    intro E w a c₀ cs hm h ha
    exact wpSIn_of_wpIn rfl (wpIn_mono (g E w a none h ha trivial) fun e a w hq => ⟨rfl, hq⟩)
  unfold stCodeS at he
  split at he
  · rename_i x y
    rcases oN_some he with ⟨A1, S1, e1, e2⟩ | ⟨z, A1, S1, e1, e2, e3⟩
    · have g1 := hs _ _ _ _ e1
      have g2 := hs _ _ _ _ e2
      obtain ⟨z, A', S', rfl⟩ := g2.exitS
      intro E w a c₀ cs hm h ha
      refine wpSIn_seq (wpSIn_mono (g1 E w a c₀ cs hm h ha) fun e a1 cs1 w1 hq => ?_)
      obtain ⟨rfl, E1, hx, ha1, hp1⟩ := hq
      cases hx
      exact wpSIn_mono (g2 E1 w1 a1 c₀ cs hm hp1.rep ha1) fun e a cs w hq => ⟨hq.1, Ends.after hp1 hq.2⟩
    · subst e3
      have g1 := hs _ _ _ _ e1
      intro E w a c₀ cs hm h ha
      refine wpSIn_seq (wpSIn_mono (g1 E w a c₀ cs hm h ha) fun e a1 cs1 w1 hq => ?_)
      obtain ⟨rfl, E1, hx, ha1, hp1⟩ := hq
      cases hx with
      | normal => exact absurd rfl e2
      | exit id => exact ⟨rfl, E1, .exit id, ha1, hp1⟩
      | goto l => exact ⟨rfl, E1, .goto l, ha1, hp1⟩
      | ret => exact ⟨rfl, E1, .ret, ha1, hp1⟩
  · rename_i e x y
    unfold stCond at he
    split at he
    case h_2 => cases he
    rename_i cb hcb
    rcases oI_some he with ⟨rfl, he⟩ | ⟨rfl, he⟩
    · have g1 := hs _ _ _ _ he
      obtain ⟨z, A', S', rfl⟩ := g1.exitS
      exact fun E w a c₀ cs hm h ha => wpSIn_cond (evB h ha hcb) (g1 E w a c₀ cs hm h ha)
    · have g1 := hs _ _ _ _ he
      obtain ⟨z, A', S', rfl⟩ := g1.exitS
      exact fun E w a c₀ cs hm h ha => wpSIn_cond (evB h ha hcb) (g1 E w a c₀ cs hm h ha)
  · rename_i id ops
    rcases oI_some he with ⟨_, he⟩ | ⟨_, he⟩
    · have g1 := hs _ _ _ _ he
      obtain ⟨A', S', rfl⟩ := g1.opsS
      intro E w a c₀ cs hm h ha
      refine wpSIn_region ?_
      have := g1.2 0 (by simp) E w a c₀ cs hm h ha
      rw [Array.length_toList] at this
      rwa [List.range_eq_range']
    · exact base he
  · exact base he

theorem aVal_nx (hX : XOk X P) (h : Rep X.G E S w) {nm : Nat} {ev : Operand → Option Value} {ρ : Operand → Value} (hev : EvR E ev ρ) {o : Oper} (hk : opKind o = .plain) {v : Value} {S' : ASt} (he : aVal X rec nm ev o S = some (v, S'))
    (hn : E nm = none) (hc : nm < S.ctr) : ∃ E' nx v' w', (execOp ρ o).run P w = .ok nx w' ∧ (nx = .value v' ∨ nx = .skip ∧ v' = undef) ∧ VR E' v v' ∧ Post X.G (fun b => b = nm ∨ S.ctr ≤ b) E S w E' S' w' := by
  unfold aVal at he
  rw [hk] at he
  simp only at he
  split at he
  · split at he
    · rename_i u hu
      cases he
      obtain ⟨r', h1, h2⟩ := aRead_ok hX.T h hev hu
      exact ⟨E, _, r', w, h1, .inl rfl, h2, Post.refl h⟩
    · split at he
      · rename_i u S1 hu
        cases he
        obtain ⟨E', nx, w', h1, h2, h3⟩ := aEff_ok hX.T h hev hu hn hc
        cases h2 with
        | value h2 => exact ⟨E', _, _, w', h1, .inl rfl, h2, h3.or⟩
      · rename_i S1 hu
        cases he
        obtain ⟨E', nx, w', h1, h2, h3⟩ := aEff_ok hX.T h hev hu hn hc
        cases h2 with
        | skip => exact ⟨E', _, _, w', h1, .inr ⟨rfl, rfl⟩, .undef, h3.or⟩
      · cases he
  · split at he
    · rename_i u S1 hu
      cases he
      obtain ⟨E', nx, w', h1, h2, h3⟩ := aEff_ok hX.T h hev hu hn hc
      cases h2 with
      | value h2 => exact ⟨E', _, _, w', h1, .inl rfl, h2, h3.or⟩
    · cases he

theorem opsS_ok (hX : XOk X P) (hs : Sound X P rec) {ops : Array Oper} {l : List Oper} {A : AAct} {r : Res} (he : stepB X rec (.opsS ops l) A S = some r) : Good X P (.opsS ops l) A S r := by
  simp only [stepB] at he
  cases l with
  | nil =>
    cases he
    refine ⟨rfl, fun i _ E w a c₀ cs hm h ha => ?_⟩
    exact ⟨rfl, E, .normal, ha, Post.refl h⟩
  | cons o os =>
    simp only [stOpS] at he
    rcases oI_some he with ⟨hw, he⟩ | ⟨hw, he⟩
    · rcases oI_some he with ⟨hrc, he⟩ | ⟨hrc, he⟩
      · obtain ⟨A1, e1, e2⟩ := oB_some he
        have g := hs _ _ _ _ e2
        obtain ⟨A', S', rfl⟩ := g.opsS
        refine ⟨rfl, fun i hi E w a c₀ cs hm h ha => ?_⟩
        obtain ⟨ho, hos⟩ := drop_cons hi
        rw [List.length_cons, List.range'_succ]
        simp only [wpOpsSIn, ho]
        rw [← aWanted_eq ha, hw]
        simp only [if_true]
        refine ⟨fun _ _ => trivial, ?_⟩
        have hrun : (execOp a.eval o).run P w = .ok .recover w := by
          unfold recovers at hrc
          split at hrc
          · rename_i q
            simp only [execOp, q, resolve]
            simp [Sem.run_bind, Result.andThen, invoke, builtin]
          · cases hrc
        have hrd : recoverD (c₀ :: cs) = none := by
          simp [recoverD, hm]
        rw [hrun]
        simp only [hrd]
        exact g.2 (i + 1) hos E w _ c₀ cs hm h (aput_ok ha .nilIface e1)
      · split at he
        case h_2 => cases he
        rename_i hk
        rw [onS_eq, bump_eq] at he
        obtain ⟨A1, S1, e1, e2⟩ := oP_some he
        have g := hs _ _ _ _ e2
        obtain ⟨A', S', rfl⟩ := g.opsS
        refine ⟨rfl, fun i hi E w a c₀ cs hm h ha => ?_⟩
        obtain ⟨ho, hos⟩ := drop_cons hi
        rw [List.length_cons, List.range'_succ]
        simp only [wpOpsSIn, ho]
        rw [← aWanted_eq ha, hw]
        simp only [if_true]
        refine ⟨fun _ _ => trivial, ?_⟩
        unfold aOp at e1
        rw [hk] at e1
        simp only at e1
        obtain ⟨v, S2, q1, q2⟩ := oP_some e1
        obtain ⟨A2, q3, q4⟩ := oB_some q2
        cases q4
        have h1 : Rep X.G E ⟨S.mem, S.ctr + 1⟩ w := h.ctr (by show S.ctr ≤ S.ctr + 1; omega)
        obtain ⟨E', nx, v', w', z1, z2, z3, z4⟩ := aVal_nx hX h1 (aev_ok h1 ha) hk (aValF_eq q1) (h.fresh (Nat.le_refl _)) (by show S.ctr < S.ctr + 1; omega)
        have hp1 : Post X.G (S.ctr ≤ ·) E S w E' S1 w' := by
          have := z4.mono (N' := (S.ctr ≤ ·)) (fun b hb => by
            rcases hb with rfl | hb
            · exact Nat.le_refl _
            · exact Nat.le_of_succ_le hb)
          exact { this with ctr := Nat.le_trans (by show S.ctr ≤ S.ctr + 1; omega) this.ctr }
        have fin : wpOpsSIn Fence.wide 0 P ops (fun e a' cs' w' => cs' = c₀ :: cs ∧ Ends X.G E S w .normal A' S' e a' w') (List.range' (i + 1) os.length) (a.put o.dst v') (c₀ :: cs) w' := by
          have := g.2 (i + 1) hos E' w' _ c₀ cs hm hp1.rep (aput_ok (ha.mono z4.le) z3 q3)
          have mono : ∀ (l : List Nat) (a : Act) (cs2 : List Frame) (w2 : World), wpOpsSIn Fence.wide 0 P ops (fun e a' cs' w'' => cs' = c₀ :: cs ∧ Ends X.G E' S1 w' .normal A' S' e a' w'') l a cs2 w2 →
              wpOpsSIn Fence.wide 0 P ops (fun e a' cs' w' => cs' = c₀ :: cs ∧ Ends X.G E S w .normal A' S' e a' w') l a cs2 w2 := by
            intro l
            induction l with
            | nil => exact fun a cs2 w2 hq => ⟨hq.1, Ends.after hp1 hq.2⟩
            | cons j l ih =>
              intro a cs2 w2 hq
              simp only [wpOpsSIn] at hq ⊢
              split
              · rename_i hj; simp only [hj] at hq; exact ih _ _ _ hq
              · rename_i o2 hj
                simp only [hj] at hq
                refine ⟨hq.1, ?_⟩
                have hq := hq.2
                split
                · rename_i hw2
                  simp only [hw2, if_true] at hq
                  generalize (execOp a.eval o2).run P w2 = rr at *
                  cases rr with
                  | ok x w3 =>
                    cases x <;> simp only at hq ⊢ <;> first
                      | exact ih _ _ _ hq
                      | exact hq
                      | skip
                    split
                    · rename_i hv; simp only [hv] at hq; exact ih _ _ _ hq
                    · rename_i hv; simp only [hv] at hq; exact ih _ _ _ hq
                  | halt x w3 => cases x <;> simp only at hq ⊢ <;> first | exact ⟨hq.1, Ends.after hp1 hq.2⟩ | exact hq
                · rename_i hw2
                  simp only [hw2] at hq
                  exact ih _ _ _ hq
          exact mono _ _ _ _ this
        rw [z1]
        rcases z2 with rfl | ⟨rfl, rfl⟩
        · exact fin
        · exact fin
    · obtain ⟨A1, e1, e2⟩ := oB_some he
      have g := hs _ _ _ _ e2
      obtain ⟨A', S', rfl⟩ := g.opsS
      refine ⟨rfl, fun i hi E w a c₀ cs hm h ha => ?_⟩
      obtain ⟨ho, hos⟩ := drop_cons hi
      rw [List.length_cons, List.range'_succ]
      simp only [wpOpsSIn, ho]
      rw [← aWanted_eq ha, hw]
      simp only [Bool.false_eq_true, if_false]
      exact ⟨fun _ _ => trivial, g.2 (i + 1) hos E w _ c₀ cs hm h (aput_ok ha .undef e1)⟩

theorem step_ok (hX : XOk X P) (hs : Sound X P rec) (hD : DrawSound X P rec) : Sound X P (stepB X rec) := by
  intro cmd A S r he
  cases cmd with
  | code ro c => exact code_ok hX hs hD he
  | loop ro c => exact loop_ok hs he
  | ops ro ops l => exact ops_ok hX hs he
  | call f args => exact call_ok hX hs he
  | leave fn ds => exact leave_ok hX hs he
  | callD f args => exact callD_ok hX hs he
  | codeS c => exact codeS_ok hs he
  | opsS ops l => exact opsS_ok hX hs he

theorem sound_of_draw (hX : XOk X P) (hD : ∀ rec, Sound X P rec → DrawSound X P rec) : ∀ n, Sound X P (run X n)
  | 0 => fun _ _ _ _ h => by cases h
  | n + 1 => step_ok hX (sound_of_draw hX hD n) (hD _ (sound_of_draw hX hD n))
end Go.Ax
namespace Go.Ax
variable {P : Program} {E : Env} {S : ASt} {w : World} {X : XT} {rec : Rec}

theorem evL_congr {ev ev' : Operand → Option Value} : ∀ {xs : List Operand}, (∀ x ∈ xs, ev x = ev' x) → evL ev xs = evL ev' xs := by
  intro xs
  induction xs with
  | nil => intro _; rfl
  | cons x xs ih =>
    intro h
    simp only [evL, h x (List.mem_cons_self), ih fun y hy => h y (List.mem_cons_of_mem _ hy)]
theorem evA_congr {ev ev' : Operand → Option Value} {xs : Array Operand} (h : ∀ x ∈ xs, ev x = ev' x) : evA ev xs = evA ev' xs := by
  unfold evA
  rw [evL_congr fun x hx => h x (by simpa using hx)]
theorem evO_congr {ev ev' : Operand → Option Value} {x : Option Operand} (h : ∀ y ∈ x.toArray, ev y = ev' y) : evO ev x = evO ev' x := by
  cases x with
  | none => rfl
  | some y => simp only [evO, h y (by simp)]
theorem evParts_congr {ev ev' : Operand → Option Value} : ∀ {xs : List (Nat × Operand)}, (∀ p ∈ xs, ev p.2 = ev' p.2) → evParts ev xs = evParts ev' xs := by
  intro xs
  induction xs with
  | nil => intro _; rfl
  | cons p xs ih =>
    intro h
    obtain ⟨i, x⟩ := p
    simp only [evParts, h (i, x) (List.mem_cons_self), ih fun y hy => h y (List.mem_cons_of_mem _ hy)]

theorem aRead_congr {T : Tabs} {G : Glob} {ev ev' : Operand → Option Value} {o : Oper} (h : ∀ x ∈ o.op.operands, ev x = ev' x) : aRead T G S ev o = aRead T G S ev' o := by
  unfold aRead
  split <;> rename_i ho <;> simp only [ho, Op.operands] at h <;> first
    | rfl
    | (simp only [h _ (by simp : _ ∈ #[_])]; done)
    | skip
  all_goals first
    | (rename_i x y; rw [h _ (by simp)]; done)
    | skip
  case h_3 c a b => rw [h c (by simp), h a (by simp), h b (by simp)]
  case h_6 op t x y _ => rw [h x (by simp), h y (by simp)]
  case h_10 fn f c => rw [evA_congr fun x hx => h x (by simp [hx]), evA_congr (xs := c) fun x hx => h x (by simp [hx])]
  case h_11 t x lo hi mx =>
    rw [h x (by simp), evO_congr (x := lo) fun y hy => h y (by simp at hy ⊢; simp [hy]), evO_congr (x := hi) fun y hy => h y (by simp at hy ⊢; simp [hy]), evO_congr (x := mx) fun y hy => h y (by simp at hy ⊢; simp [hy])]
  case h_14 t x i => rw [h x (by simp), h i (by simp)]
  case h_15 t x i => rw [h x (by simp), h i (by simp)]
  case h_16 t x i b => rw [h x (by simp), h i (by simp)]
  case h_19 c => rw [evA_congr (xs := c.args) fun x hx => h x (by simp [Call.operands, hx])]

theorem aEff_congr {T : Tabs} {G : Glob} {nm : Nat} {ev ev' : Operand → Option Value} {o : Oper} (h : ∀ x ∈ o.op.operands, ev x = ev' x) : aEff T G S nm ev o = aEff T G S nm ev' o := by
  unfold aEff
  split <;> rename_i ho <;> simp only [ho, Op.operands] at h <;> first
    | rfl
    | (simp only [h _ (by simp : _ ∈ #[_])]; done)
    | skip
  case h_2 t x => rw [h x (by simp)]
  case h_3 t ps => rw [evParts_congr fun p hp => h p.2 (by simpa using ⟨p.1, by simpa using hp⟩)]
  case h_4 t n ps => rw [evParts_congr fun p hp => h p.2 (by simpa using ⟨p.1, by simpa using hp⟩)]
  case h_5 t l c => rw [h l (by simp), h c (by simp)]
  case h_6 t r => rw [evO_congr h]
  case h_7 t a x => rw [h a (by simp), h x (by simp)]
  case h_8 t m k x => rw [h m (by simp), h k (by simp), h x (by simp)]
  case h_9 t m k x => rw [h m (by simp), h k (by simp), h x (by simp)]
  case h_10 t x => rw [h x (by simp)]
  case h_11 it b => rw [h it (by simp)]
  case h_12 it => rw [h it (by simp)]
  case h_13 a b x => rw [h x (by simp)]
  case h_14 c => rw [evA_congr (xs := c.args) fun x hx => h x (by simp [Call.operands, hx])]

theorem aVal_congr {nm : Nat} {ev ev' : Operand → Option Value} {o : Oper} (h : ∀ x ∈ o.op.operands, ev x = ev' x) : aVal X rec nm ev o S = aVal X rec nm ev' o S := by
  unfold aVal
  split
  · rename_i f args hk
    have hop : ∃ c, o.op = .call c ∧ c.callee = .value f ∧ c.args = args := by
      unfold opKind at hk
      split at hk
      · rename_i c hoc
        split at hk
        · rename_i g hg
          cases hk
          exact ⟨c, hoc, hg, rfl⟩
        · cases hk
      · split at hk <;> cases hk
      · cases hk
    obtain ⟨c, h1, h2, rfl⟩ := hop
    rw [h1] at h
    simp only [Op.operands, Call.operands, h2] at h
    rw [h f (by simp), evA_congr (xs := c.args) fun x hx => h x (by simp [hx])]
  · rfl
  · rw [aRead_congr h, aEff_congr h]

/-- What an operation looks at, and nothing else. -/
noncomputable def only (o : Oper) (ev : Operand → Option Value) : Operand → Option Value := open Classical in fun x => if x ∈ o.op.operands then ev x else none
theorem only_eq (o : Oper) (ev : Operand → Option Value) : ∀ x ∈ o.op.operands, only o ev x = ev x := fun x hx => by simp [only, hx]
theorem only_ok {o : Oper} {ev : Operand → Option Value} {ρ : Operand → Value} (h : ∀ x v, x ∈ o.op.operands → ev x = some v → VR E v (ρ x)) : EvR E (only o ev) ρ := by
  intro x v e
  unfold only at e
  split at e
  · rename_i hx; exact h x v hx e
  · cases e

/-! ### masks -/
theorem ownMask_bit (acc : List Nat) : ∀ (es : List Edge) (b : Nat), (ownMask acc es).testBit b = true → ∃ e ∈ es, Region.binds .any e = true ∧ (b = e.on ∨ ((nth acc e.on).getD 0).testBit b = true) := by
  intro es
  induction es with
  | nil => intro b h; simp [ownMask] at h
  | cons e es ih =>
    intro b h
    unfold ownMask at h
    split at h
    · rename_i hb
      have h : ((ownMask acc es ||| 2 ^ e.on) ||| (nth acc e.on).getD 0).testBit b = true := h
      rw [Nat.testBit_or, Nat.testBit_or, Nat.testBit_two_pow] at h
      simp only [Bool.or_eq_true, decide_eq_true_eq] at h
      rcases h with (h | h) | h
      · obtain ⟨e', h1, h2⟩ := ih b h
        exact ⟨e', List.mem_cons_of_mem _ h1, h2⟩
      · exact ⟨e, List.mem_cons_self, hb, .inl h.symm⟩
      · exact ⟨e, List.mem_cons_self, hb, .inr h⟩
    · obtain ⟨e', h1, h2⟩ := ih b h
      exact ⟨e', List.mem_cons_of_mem _ h1, h2⟩

theorem masksGo_spec : ∀ (os : List Oper) (acc : List Nat), (masksGo os acc).length = acc.length + os.length ∧ (masksGo os acc).take acc.length = acc ∧
    ∀ i o, os[i]? = some o → (masksGo os acc)[acc.length + i]? = some (ownMask ((masksGo os acc).take (acc.length + i)) o.after.toList) := by
  intro os
  induction os with
  | nil => intro acc; exact ⟨by simp [masksGo], by simp [masksGo], fun i o h => by simp at h⟩
  | cons o os ih =>
    intro acc
    obtain ⟨h1, h2, h3⟩ := ih (acc ++ [ownMask acc o.after.toList])
    simp only [masksGo]
    simp only [List.length_append, List.length_cons, List.length_nil] at h1 h2 h3
    have ht : (masksGo os (acc ++ [ownMask acc o.after.toList])).take acc.length = acc := by
      have := congrArg (List.take acc.length) h2
      rw [List.take_take, Nat.min_eq_left (by omega)] at this
      rw [this]; simp
    refine ⟨by simp only [List.length_cons]; omega, ht, fun i o' hi => ?_⟩
    cases i with
    | zero =>
      simp only [List.getElem?_cons_zero, Option.some.injEq] at hi
      subst hi
      simp only [Nat.add_zero]
      rw [ht]
      have := congrArg (fun l => l[acc.length]?) h2
      simp only [List.getElem?_take] at this
      rw [if_pos (by omega)] at this
      rw [this]; simp
    | succ i =>
      rw [List.getElem?_cons_succ] at hi
      have := h3 i o' hi
      rw [show acc.length + (i + 1) = acc.length + (0 + 1) + i from by omega]
      exact this

/-- The mask of operation i. -/
noncomputable def maskAt (ops : Array Oper) (i : Nat) : Nat := (nth (masksGo ops.toList []) i).getD 0

theorem nth_mk {ops : Array Oper} {i : Nat} {o : Oper} (h : ops[i]? = some o) : nth (masksGo ops.toList []) i = some (maskAt ops i) := by
  obtain ⟨_, _, h3⟩ := masksGo_spec ops.toList []
  have := h3 i o (by simpa using h)
  simp only [List.length_nil, Nat.zero_add] at this
  unfold maskAt
  rw [nth_eq, this]
  rfl

theorem mk_bit {ops : Array Oper} {i : Nat} {o : Oper} (h : ops[i]? = some o) (hb : ∀ e ∈ o.after.toList, Region.binds .any e = true → e.on < i) {b : Nat} (ht : (maskAt ops i).testBit b = true) :
    ∃ e ∈ o.after.toList, Region.binds .any e = true ∧ (b = e.on ∨ (maskAt ops e.on).testBit b = true) := by
  obtain ⟨_, _, h3⟩ := masksGo_spec ops.toList []
  have h3 := h3 i o (by simpa using h)
  simp only [List.length_nil, Nat.zero_add] at h3
  have e1 : maskAt ops i = ownMask ((masksGo ops.toList []).take i) o.after.toList := by
    unfold maskAt; rw [nth_eq, h3]; rfl
  rw [e1] at ht
  obtain ⟨e, he, hbi, h4⟩ := ownMask_bit _ _ _ ht
  refine ⟨e, he, hbi, ?_⟩
  rcases h4 with h4 | h4
  · exact .inl h4
  · right
    have := hb e he hbi
    rw [nth_eq, List.getElem?_take, if_pos this] at h4
    unfold maskAt
    rw [nth_eq]; exact h4

theorem hits_ok {d : Option Tmp} {l : List Tmp} {t : Tmp} (hd : d = some t) (ht : t ∈ l) : hits d l = true := by
  subst hd
  simp only [hits, List.any_eq_true]
  exact ⟨t, ht, Nat.beq_refl t⟩

structure DrawFacts (T : Tabs) (ops : Array Oper) : Prop where
  back : ∀ i o, ops[i]? = some o → ∀ e ∈ o.after.toList, Region.binds .any e = true → e.on < i
  dst : ∀ i o j p t, ops[i]? = some o → ops[j]? = some p → j < i → p.dst = some t → t ∈ namesOf ops o → (maskAt ops i).testBit j = true
  use : ∀ i o j p t, ops[i]? = some o → ops[j]? = some p → j < i → o.dst = some t → t ∈ namesOf ops p → (maskAt ops i).testBit j = true
  eff : ∀ i o j p, ops[i]? = some o → ops[j]? = some p → j < i → isE T p = true → isE T o = true → (maskAt ops i).testBit j = true

theorem drawOk_facts {T : Tabs} {ops : Array Oper} (h : drawOk T ops (masksGo ops.toList []) = true) : DrawFacts T ops := by
  unfold drawOk at h
  rw [List.all_eq_true] at h
  have key : ∀ i o, ops[i]? = some o → (o.after.toList.all fun e => !Region.binds .any e || Nat.blt e.on i) = true ∧ ∀ j p, ops[j]? = some p → j < i →
      ((maskAt ops i).testBit j || !(hits p.dst (namesOf ops o) || hits o.dst (namesOf ops p) || (isE T p && isE T o))) = true := fun i o ho => by
    have hi : i < ops.size := (Array.getElem?_eq_some_iff.1 ho).1
    have h1 := h i (List.mem_range.2 hi)
    rw [nth_mk ho, nth_eq, Array.getElem?_toList, ho] at h1
    simp only [Bool.and_eq_true, List.all_eq_true (l := List.range i)] at h1
    refine ⟨h1.1, fun j p hp hj => ?_⟩
    have h2 := h1.2 j (List.mem_range.2 hj)
    rw [nth_eq, Array.getElem?_toList, hp] at h2
    exact h2
  refine ⟨fun i o ho e he hb => ?_, fun i o j p t ho hp hj hd ht => ?_, fun i o j p t ho hp hj hd ht => ?_, fun i o j p ho hp hj h1 h2 => ?_⟩
  · have := (key i o ho).1
    rw [List.all_eq_true] at this
    have := this e he
    rw [hb] at this
    simpa [Nat.blt_eq] using this
  · have := (key i o ho).2 j p hp hj
    rw [hits_ok hd ht] at this
    simpa using this
  · have := (key i o ho).2 j p hp hj
    rw [hits_ok hd ht] at this
    simpa using this
  · have := (key i o ho).2 j p hp hj
    rw [h1, h2] at this
    simpa using this

theorem tmpsOf_mem {l : List Operand} {t : Tmp} (h : Operand.tmp t ∈ l) : t ∈ tmpsOf l := by
  induction l with
  | nil => cases h
  | cons x l ih =>
    rcases List.mem_cons.1 h with h1 | h1
    · subst h1; simp [tmpsOf]
    · have := ih h1
      cases x <;> simp [tmpsOf, this]

/-! ### the run -/
theorem drawGo_run {ops : Array Oper} {c0 : Nat} : ∀ (os : List Oper) (ms : List Nat) (i : Nat) (D Dk : DSt), drawGo X rec ops c0 os ms i D = some Dk →
    ∃ Ds : Nat → DSt, Ds i = D ∧ Ds (i + os.length) = Dk ∧ ∀ j o, os[j]? = some o → ∃ m, ms[j]? = some m ∧ drawOp X rec ops c0 (i + j) o m (Ds (i + j)) = some (Ds (i + j + 1)) := by
  intro os
  induction os with
  | nil =>
    intro ms i D Dk h
    simp only [drawGo] at h
    cases h
    exact ⟨fun _ => D, rfl, rfl, fun j o h => by simp at h⟩
  | cons o os ih =>
    intro ms i D Dk h
    cases ms with
    | nil => simp [drawGo] at h
    | cons m ms =>
      simp only [drawGo] at h
      obtain ⟨D1, h1, h2⟩ := oB_some h
      obtain ⟨Ds, k1, k2, k3⟩ := ih ms (i + 1) D1 Dk h2
      refine ⟨fun n => if n = i then D else Ds n, by simp, ?_, fun j o' hj => ?_⟩
      · simp only [List.length_cons]
        rw [if_neg (by omega), ← k2]
        congr 1; omega
      · cases j with
        | zero =>
          simp only [List.getElem?_cons_zero, Option.some.injEq] at hj
          subst hj
          refine ⟨m, rfl, ?_⟩
          show drawOp X rec ops c0 i o m (if i = i then D else Ds i) = some (if i + 1 = i then D else Ds (i + 1))
          rw [if_pos rfl, if_neg (by omega), k1]
          exact h1
        | succ j =>
          rw [List.getElem?_cons_succ] at hj
          obtain ⟨m', q1, q2⟩ := k3 j o' hj
          refine ⟨m', q1, ?_⟩
          show drawOp X rec ops c0 (i + (j + 1)) o' m' (if i + (j + 1) = i then D else Ds (i + (j + 1))) = some (if i + (j + 1) + 1 = i then D else Ds (i + (j + 1) + 1))
          rw [if_neg (by omega), if_neg (by omega)]
          rw [show i + (j + 1) = i + 1 + j from by omega]
          exact q2

inductive Stp (X : XT) (rec : Rec) (ops : Array Oper) (c0 i : Nat) (o : Oper) (m : Nat) (D D' : DSt) (v : Value) : Prop
  | pass (h : aWanted ops D.A o = false) (hv : v = undef) (h1 : D'.S = D.S) (h2 : D'.past = D.past) (h3 : D'.allocs = D.allocs) (h4 : D'.com = D.com) (h5 : D'.pend = D.pend)
  | make (h : aWanted ops D.A o = true) (S' : ASt) (hm : makes X.T o = true) (he : aEff X.T X.G ⟨.nil, top⟩ (c0 + i) (aev X.G D.A) o = some (some v, S')) (h1 : D'.S = D.S) (h2 : D'.past = D.past)
      (h3 : D'.allocs = (match S'.mem.get (c0 + i) with | none => D.allocs | some ob => (i, ob) :: D.allocs)) (h4 : D'.com = D.com) (h5 : D'.pend = D.pend)
  | read (h : aWanted ops D.A o = true) (hm : makes X.T o = false) (hE : isE X.T o = false) (he : aRead X.T X.G D.S (aev X.G D.A) o = some v) (hp : pastOk X o D.A v m D.past = true) (h1 : D'.S = D.S) (h2 : D'.past = D.past)
      (h3 : D'.allocs = D.allocs) (h4 : D'.com = D.com) (h5 : D'.pend = (i, o, D.A, v) :: D.pend)
  | eff (h : aWanted ops D.A o = true) (hm : makes X.T o = false) (hE : isE X.T o = true) (he : aValF X rec (c0 + i) (aev X.G D.A) o (commitL c0 m D.com D.allocs D.S) = some (v, D'.S)) (hp : pendOk X m D'.S D.pend = true) (hc : D'.S.ctr ≤ top)
      (h2 : D'.past = (i, D.S) :: D.past) (h3 : D'.allocs = D.allocs) (h4 : D'.com = Nat.lor D.com m) (h5 : D'.pend = D.pend)

theorem drawOp_cases {ops : Array Oper} {c0 i : Nat} {o : Oper} {m : Nat} {D D' : DSt} (h : drawOp X rec ops c0 i o m D = some D') : ∃ v, aput D.A o.dst v = some D'.A ∧ Stp X rec ops c0 i o m D D' v := by
  unfold drawOp at h
  obtain ⟨A, S, past, allocs, com, pend⟩ := D
  rcases oI_some h with ⟨hw, h⟩ | ⟨hw, h⟩
  · rcases oI_some h with ⟨hm, h⟩ | ⟨hm, h⟩
    · simp only [drawMake] at h
      obtain ⟨u, S', e1, q1⟩ := oP_some h
      obtain ⟨v, e2, q2⟩ := oB_some q1
      obtain ⟨A', e3, q3⟩ := oB_some q2
      subst e2
      rcases oE_some q3 with ⟨e4, h⟩ | ⟨ob, e4, h⟩
      · cases h
        exact ⟨v, e3, .make hw S' hm e1 rfl rfl (by rw [e4]) rfl rfl⟩
      · cases h
        exact ⟨v, e3, .make hw S' hm e1 rfl rfl (by rw [e4]) rfl rfl⟩
    · rcases oI_some h with ⟨hE, h⟩ | ⟨hE, h⟩
      · simp only [drawEff] at h
        obtain ⟨v, S2, e1, h⟩ := oP_some h
        obtain ⟨A', e2, h⟩ := oB_some h
        obtain ⟨e3, h⟩ := oT_some h
        obtain ⟨e4, h⟩ := oT_some h
        cases h
        exact ⟨v, e2, .eff hw hm hE e1 e3 (Nat.le_of_ble_eq_true e4) rfl rfl rfl rfl⟩
      · simp only [drawRead] at h
        obtain ⟨v, e1, h⟩ := oB_some h
        obtain ⟨A', e2, h⟩ := oB_some h
        obtain ⟨e3, h⟩ := oT_some h
        cases h
        exact ⟨v, e2, .read hw hm hE (aReadF_eq e1) e3 rfl rfl rfl rfl rfl⟩
  · simp only [drawPass] at h
    obtain ⟨A', e1, h⟩ := oB_some h
    cases h
    exact ⟨_, e1, .pass hw rfl rfl rfl rfl rfl rfl⟩
end Go.Ax
namespace Go.Ax

structure Hyp (X : XT) (P : Program) (rec : Rec) (ops : Array Oper) (c : Nat) (m : Tr AObj) (A : AAct) (Ds : Nat → DSt) (v : Nat → Value) (E0 : Env) (w0 : World) (a0 : Act) : Prop where
  hX : XOk X P
  hs : Sound X P rec
  facts : DrawFacts X.T ops
  h0 : Ds 0 = ⟨A, ⟨m, c + ops.size⟩, [], [], 0, []⟩
  step : ∀ i o, ops[i]? = some o → aput (Ds i).A o.dst (v i) = some (Ds (i + 1)).A ∧ Stp X rec ops c i o (maskAt ops i) (Ds i) (Ds (i + 1)) (v i)
  small : c + ops.size ≤ top
  rep : Rep X.G E0 ⟨m, c⟩ w0
  act : ActR E0 A a0

noncomputable def valT (L : Nat → Bool) (ops : Array Oper) (v : Nat → Value) (A : AAct) (t : Tmp) : Nat → Value
  | 0 => (A.tmps.get t).getD undef
  | i + 1 => if L i = true ∧ (ops[i]?.bind (·.dst)) = some t then v i else valT L ops v A t i

noncomputable def Closed (ops : Array Oper) (L : Nat → Bool) : Prop := ∀ i, L i = true → ∀ b, (maskAt ops i).testBit b = true → L b = true

noncomputable def upd (L : Nat → Bool) (i : Nat) : Nat → Bool := fun j => if j = i then true else L j

section
variable {X : XT} {P : Program} {rec : Rec} {ops : Array Oper} {c : Nat} {m : Tr AObj} {A : AAct} {Ds : Nat → DSt} {v : Nat → Value} {E0 : Env} {w0 : World} {a0 : Act}

theorem Hyp.op (_H : Hyp X P rec ops c m A Ds v E0 w0 a0) {i : Nat} (hi : i < ops.size) : ∃ o, ops[i]? = some o := ⟨_, Array.getElem?_eq_getElem hi⟩

theorem Hyp.lex (H : Hyp X P rec ops c m A Ds v E0 w0 a0) : ∀ i, i ≤ ops.size → (Ds i).A.n = A.n ∧ (Ds i).A.defers = A.defers ∧ ∀ t, ((Ds i).A.tmps.get t).getD undef = valT (fun _ => true) ops v A t i := by
  intro i
  induction i with
  | zero => intro _; rw [H.h0]; exact ⟨rfl, rfl, fun t => rfl⟩
  | succ i ih =>
    intro hi
    obtain ⟨h1, h2, h3⟩ := ih (by omega)
    obtain ⟨o, ho⟩ := H.op (i := i) (by omega)
    obtain ⟨e, _⟩ := H.step i o ho
    obtain ⟨n1, n2⟩ := aput_n e
    refine ⟨n1.trans h1, n2.trans h2, fun t => ?_⟩
    simp only [valT, ho, Option.bind_some]
    unfold aput at e
    cases hd : o.dst with
    | none =>
      rw [hd] at e
      have e := Option.some.inj e
      rw [if_neg (by simp), ← e]; exact h3 t
    | some d =>
      rw [hd] at e
      simp only [onA_eq] at e
      obtain ⟨q1, q2⟩ := oT_some e
      have q2 := Option.some.inj q2
      have q1 : d < (Ds i).A.n := Nat.le_of_ble_eq_true q1
      rw [← q2]
      simp only
      rw [Tr.get_set _ _ _ _ _ (top_lt (Nat.lt_of_lt_of_le q1 (h1 ▸ H.act.top)))]
      by_cases ht : t = d
      · subst ht; simp
      · rw [if_neg ht, if_neg (by simp; exact fun e => ht e.symm)]; exact h3 t

theorem Hyp.names (H : Hyp X P rec ops c m A Ds v E0 w0 a0) {L : Nat → Bool} (hL : Closed ops L) {i : Nat} {o : Oper} (ho : ops[i]? = some o) (hi : L i = false) (hm : ∀ b, (maskAt ops i).testBit b = true → L b = true)
    {t : Tmp} (ht : t ∈ namesOf ops o) : valT L ops v A t ops.size = ((Ds i).A.tmps.get t).getD undef := by
  have hlt : i < ops.size := (Array.getElem?_eq_some_iff.1 ho).1
  rw [(H.lex i (by omega)).2.2 t]
  have up : ∀ q, i ≤ q → q ≤ ops.size → valT L ops v A t q = valT L ops v A t i := by
    intro q
    induction q with
    | zero => intro h1 _; rw [show i = 0 from by omega]
    | succ q ih =>
      intro h1 h2
      by_cases hq : q + 1 = i
      · rw [hq]
      · rw [← ih (by omega) (by omega)]
        simp only [valT]
        rw [if_neg]
        rintro ⟨l1, l2⟩
        by_cases hqi : q = i
        · subst hqi; rw [hi] at l1; cases l1
        · obtain ⟨p, hp⟩ := H.op (i := q) (by omega)
          rw [hp] at l2
          have := H.facts.use q p i o t hp ho (by omega) l2 ht
          have := hL q l1 i this
          rw [hi] at this; cases this
  have down : ∀ q, q ≤ i → valT L ops v A t q = valT (fun _ => true) ops v A t q := by
    intro q
    induction q with
    | zero => intro _; rfl
    | succ q ih =>
      intro h1
      simp only [valT]
      rw [ih (by omega)]
      by_cases hd : (ops[q]?.bind (·.dst)) = some t
      · obtain ⟨p, hp⟩ := H.op (i := q) (by omega)
        have hd' := hd
        rw [hp] at hd'
        have := hm q (H.facts.dst i o q p t ho hp (by omega) hd' ht)
        simp [this]
      · simp [hd]
  rw [up ops.size (by omega) (Nat.le_refl _), down i (Nat.le_refl _)]

theorem Hyp.put (H : Hyp X P rec ops c m A Ds v E0 w0 a0) {L : Nat → Bool} (hL : Closed ops L) {i : Nat} {o : Oper} (ho : ops[i]? = some o) (hi : L i = false) (t : Tmp) :
    valT (upd L i) ops v A t ops.size = if o.dst = some t then v i else valT L ops v A t ops.size := by
  have hlt : i < ops.size := (Array.getElem?_eq_some_iff.1 ho).1
  have key : ∀ q, q ≤ ops.size → (q ≤ i → valT (upd L i) ops v A t q = valT L ops v A t q) ∧ (i < q → valT (upd L i) ops v A t q = if o.dst = some t then v i else valT L ops v A t q) := by
    intro q
    induction q with
    | zero => exact fun _ => ⟨fun _ => rfl, fun h => by omega⟩
    | succ q ih =>
      intro hq
      obtain ⟨k1, k2⟩ := ih (by omega)
      refine ⟨fun h => ?_, fun h => ?_⟩
      · have hu : upd L i q = L q := by simp only [upd]; rw [if_neg (by omega)]
        simp only [valT, hu, k1 (by omega)]
      · by_cases hqi : q = i
        · subst hqi
          have hu : upd L q q = true := by simp [upd]
          simp only [valT, hu, k1 (Nat.le_refl _), ho, Option.bind_some, true_and, hi, Bool.false_eq_true, false_and, if_false]
        · have hk := k2 (by omega)
          have hu : upd L i q = L q := by simp [upd, hqi]
          simp only [valT, hk, hu]
          by_cases hd : o.dst = some t
          · rw [if_pos hd, if_pos hd]
            split
            · rename_i hc
              obtain ⟨l1, l2⟩ := hc
              obtain ⟨p, hp⟩ := H.op (i := q) (by omega)
              rw [hp] at l2
              have := H.facts.use q p i o t hp ho (by omega) l2 (by simp [namesOf, hd])
              have := hL q l1 i this
              rw [hi] at this; cases this
            · rfl
          · rw [if_neg hd, if_neg hd]
  exact (key ops.size (Nat.le_refl _)).2 hlt

theorem makes_noE {T : Tabs} {o : Oper} (h : makes T o = true) : isE T o = false := by
  unfold makes at h
  unfold isE
  split at h <;> rename_i ho <;> first | (rw [ho]; done) | cases h | skip
  all_goals first
    | (simp only [ho]; done)
    | (simp only [ho]
       unfold isS2B at h
       unfold isMark
       split at h
       · rename_i e1 e2; rw [e1]
       · cases h)

theorem Hyp.same (H : Hyp X P rec ops c m A Ds v E0 w0 a0) {p : Nat} : ∀ q, p ≤ q → q ≤ ops.size → (∀ i o, p ≤ i → i < q → ops[i]? = some o → isE X.T o = false) → (Ds q).S = (Ds p).S ∧ (Ds q).com = (Ds p).com := by
  intro q
  induction q with
  | zero => intro h1 _ _; rw [show p = 0 from by omega]; exact ⟨rfl, rfl⟩
  | succ q ih =>
    intro h1 h2 h3
    by_cases hp : p = q + 1
    · rw [hp]; exact ⟨rfl, rfl⟩
    · obtain ⟨g1, g2⟩ := ih (by omega) (by omega) fun i o a b => h3 i o a (by omega)
      obtain ⟨o, ho⟩ := H.op (i := q) (by omega)
      have hE := h3 q o (by omega) (by omega) ho
      cases (H.step q o ho).2 with
      | pass _ _ h1 _ _ h4 _ => exact ⟨h1.trans g1, h4.trans g2⟩
      | make _ _ _ _ h1 _ _ h4 _ => exact ⟨h1.trans g1, h4.trans g2⟩
      | read _ _ _ _ _ h1 _ _ h4 _ => exact ⟨h1.trans g1, h4.trans g2⟩
      | eff _ _ hE' => rw [hE] at hE'; cases hE'

theorem Hyp.ctr_top (H : Hyp X P rec ops c m A Ds v E0 w0 a0) : ∀ q, q ≤ ops.size → (Ds q).S.ctr ≤ top := by
  intro q
  induction q with
  | zero => intro _; rw [H.h0]; exact H.small
  | succ q ih =>
    intro hq
    obtain ⟨o, ho⟩ := H.op (i := q) (by omega)
    cases (H.step q o ho).2 with
    | pass _ _ h1 => rw [h1]; exact ih (by omega)
    | make _ _ _ _ h1 => rw [h1]; exact ih (by omega)
    | read _ _ _ _ _ h1 => rw [h1]; exact ih (by omega)
    | eff _ _ _ _ _ hc => exact hc

/-! blocks made -/
theorem Hyp.al_lt (H : Hyp X P rec ops c m A Ds v E0 w0 a0) : ∀ q, q ≤ ops.size → ∀ b ob, (b, ob) ∈ (Ds q).allocs → b < q := by
  intro q
  induction q with
  | zero => intro _ b ob h; rw [H.h0] at h; cases h
  | succ q ih =>
    intro hq b ob h
    obtain ⟨o, ho⟩ := H.op (i := q) (by omega)
    have base : (b, ob) ∈ (Ds q).allocs → b < q + 1 := fun h => by have := ih (by omega) b ob h; omega
    cases (H.step q o ho).2 with
    | pass _ _ _ _ h3 => rw [h3] at h; exact base h
    | make _ S' _ _ _ _ h3 =>
      rw [h3] at h
      split at h
      · exact base h
      · rcases List.mem_cons.1 h with h | h
        · cases h; omega
        · exact base h
    | read _ _ _ _ _ _ _ h3 => rw [h3] at h; exact base h
    | eff _ _ _ _ _ _ _ h3 => rw [h3] at h; exact base h

theorem Hyp.al_sub (H : Hyp X P rec ops c m A Ds v E0 w0 a0) {i : Nat} : ∀ q, i ≤ q → q ≤ ops.size → ∀ x, x ∈ (Ds i).allocs → x ∈ (Ds q).allocs := by
  intro q
  induction q with
  | zero => intro h _ x hx; rw [show i = 0 from by omega] at hx; exact hx
  | succ q ih =>
    intro h1 h2 x hx
    by_cases hi : i = q + 1
    · rw [hi] at hx; exact hx
    · have hx := ih (by omega) (by omega) x hx
      obtain ⟨o, ho⟩ := H.op (i := q) (by omega)
      cases (H.step q o ho).2 with
      | pass _ _ _ _ h3 => rw [h3]; exact hx
      | make _ S' _ _ _ _ h3 =>
        rw [h3]; split
        · exact hx
        · exact List.mem_cons_of_mem _ hx
      | read _ _ _ _ _ _ _ h3 => rw [h3]; exact hx
      | eff _ _ _ _ _ _ _ h3 => rw [h3]; exact hx

/-- A block of the list was made by the operation of that number. -/
theorem Hyp.al_by (H : Hyp X P rec ops c m A Ds v E0 w0 a0) : ∀ q, q ≤ ops.size → ∀ b ob, (b, ob) ∈ (Ds q).allocs → ∃ o S', ops[b]? = some o ∧ makes X.T o = true ∧ aWanted ops (Ds b).A o = true ∧
    aEff X.T X.G ⟨.nil, top⟩ (c + b) (aev X.G (Ds b).A) o = some (some (v b), S') ∧ S'.mem.get (c + b) = some ob := by
  intro q
  induction q with
  | zero => intro _ b ob h; rw [H.h0] at h; cases h
  | succ q ih =>
    intro hq b ob h
    obtain ⟨o, ho⟩ := H.op (i := q) (by omega)
    cases (H.step q o ho).2 with
    | pass _ _ _ _ h3 => rw [h3] at h; exact ih (by omega) b ob h
    | make hw S' hm he _ _ h3 =>
      rw [h3] at h
      split at h
      · exact ih (by omega) b ob h
      · rename_i ob' e
        rcases List.mem_cons.1 h with h | h
        · cases h; exact ⟨o, S', ho, hm, hw, he, e⟩
        · exact ih (by omega) b ob h
    | read _ _ _ _ _ _ _ h3 => rw [h3] at h; exact ih (by omega) b ob h
    | eff _ _ _ _ _ _ _ h3 => rw [h3] at h; exact ih (by omega) b ob h
end
end Go.Ax
