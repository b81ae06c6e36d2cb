/- What the library's functions on strings do, as the shelf lays it at this program; the framework's part on strings. -/
import Derived.Test.YtchikbfmbfoaoaaDoorGb
import Derived.Shelf.Strings.OnBuilder
import Derived.Shelf.Strconv.Itoa3
import Derived.Shelf.Strconv.AtoiAll
import Derived.Shelf.Strings.Split
import Derived.Lib.SplitLaws
import Derived.Lib.AtoiErrMem
import Derived.Lib.AppendStr
import Derived.Laws.BytesArg
import Derived.Lib.LaidTab
set_option linter.unusedVariables false
set_option linter.unusedSimpArgs false
set_option maxHeartbeats 4000000
set_option maxRecDepth 8000
namespace Gw
open Go Go.RowKit Go.Deep
/-! ### strings -/
def encStr : Enc ByteArray := ⟨1, fun x => [.string x], fun _ => rfl, fun x u h => by simp at h; subst h; rfl⟩
/-- A cell of a variable that stands. -/
def cel (a : Addr) (v : Value) : Own := ⟨fun k => k = a.block, fun w => w.cell? a = some v, fun w w' h hk => by rw [World.cell?_of_block (w := w)]; exact hk; exact h a.block rfl⟩
theorem newRow {α : Type} {e : Enc α} {T : TypeId} (w : World) (cs : Array Value) (xs : List α) (hc : cs.toList = xs.flatMap e.enc) (hm : xs.length ≤ maxLen) : St NoS w (w.alloc (.cells cs T)) [] [rowO T e (some ⟨w.heap.size, 0, none⟩) xs.length xs] := by
  have h := St.alloc1 w (.cells cs T)
  have := h.map1 0 (rowO T e (some ⟨w.heap.size, 0, none⟩) xs.length xs) (fun h => rowO.ofBlk h hc hm) (fun _ h => by obtain ⟨_, h1, h2⟩ := h; injection h1 with h1; subst h1; exact h2) [] (by simp) (by simp)
  exact this
def splitP (s sep : ByteArray) : List ByteArray := Lib.splitB sep 0 (Lib.countB s sep) s
theorem split_calls {P : Program} {f : FuncId} {T : TypeId} {g : Nat} (hc : ∀ (s sep : ByteArray) (m : Int) (w : World) (_ : s.size < 4294967281) (_ : w.cell? ⟨g, 0, none⟩ = some (.int .i64 m)) (_ : 1 ≤ sep.size), Calls P f #[.string s, .string sep] w fun e w' =>
      e = .returned (.slice (some ⟨w.heap.size, 0, none⟩) (Lib.countB s sep + 1) (Lib.countB s sep + 1)) ∧ w' = w.alloc (.cells ((Lib.splitB sep 0 (Lib.countB s sep) s).map Value.string).toArray T))
    (s sep : ByteArray) (m : Int) (w : World) (hG : RO NoS w (cel ⟨g, 0, none⟩ (.int .i64 m))) (hs : s.size < 4294967281 ∧ 1 ≤ sep.size) :
    CallsR P f #[.string s, .string sep] w (fun v w' => ∃ (A : Option Addr) (c : Nat), v = .slice A (splitP s sep).length c ∧ St NoS w w' [] [rowO T encStr A c (splitP s sep)]) := by
  refine (hc s sep m w hs.1 hG.1 hs.2).mono fun e w' ⟨he, hw⟩ => ⟨_, he, some ⟨w.heap.size, 0, none⟩, (splitP s sep).length, ?_, ?_⟩
  · have hlen := Lib.splitB_all sep hs.2 0 (Lib.countB s sep) s rfl
    unfold splitP
    rw [hlen]
  · rw [hw]
    have hle := Lib.countB_le sep hs.2 s.size s (Nat.le_refl _)
    have hlen := Lib.splitB_all sep hs.2 0 (Lib.countB s sep) s rfl
    refine newRow w _ (splitP s sep) ?_ (by unfold splitP; rw [hlen]; unfold maxLen; omega)
    unfold splitP
    induction Lib.splitB sep 0 (Lib.countB s sep) s with
    | nil => rfl
    | cons a r ih => simpa [encStr] using ih
def atoiP (s : ByteArray) : Option Int := match Lib.atoiAll s.data.toList with
  | .ok v => if s.size ≤ 9223372036854775806 then some v else none
  | _ => none
theorem atoi_calls {P : Program} {f : FuncId} {T : TypeId} (hc : ∀ (s : ByteArray) (_ : s.size ≤ 9223372036854775806) (v : Int) (_ : Lib.atoiAll s.data.toList = .ok v) (w : World), Calls P f #[.string s] w fun e w' => e = .returned (.tuple #[.int .i64 v, .nilIface]) ∧ (w' = w ∨ ∃ t, w' = Lib.bytesWorld w T t))
    (s : ByteArray) (v : Int) (w : World) (h : atoiP s = some v) : CallsR P f #[.string s] w (fun r w' => r = .tuple #[.int .i64 v, .nilIface] ∧ Keeps NoS w w') := by
  unfold atoiP at h
  split at h
  · rename_i u hu
    split at h
    · rename_i hl
      injection h with h
      subst h
      refine (hc s hl u hu w).mono fun e w' ⟨he, hw⟩ => ⟨_, he, rfl, ?_⟩
      rcases hw with rfl | ⟨t, rfl⟩
      · exact Keeps.refl _ _
      · exact Keeps.of_below (Lib.bytesWorld_below w T t)
    · cases h
  · cases h
def itoaP (n : Int) : Option ByteArray := if 0 ≤ n ∧ n < 100 then some ⟨(Lib.decDigits n.toNat).toArray⟩ else none
theorem itoa_calls {P : Program} {f : FuncId} (hc : ∀ (i : Nat) (_ : i < 100) (w : World), Calls P f #[.int .i64 i] w fun e w' => e = .returned (.string ⟨(Lib.decDigits i).toArray⟩) ∧ w' = w)
    (n : Int) (r : ByteArray) (w : World) (h : itoaP n = some r) : CallsR P f #[.int .i64 n] w (fun v w' => v = .string r ∧ Keeps NoS w w') := by
  unfold itoaP at h
  split at h
  · rename_i hn
    injection h with h
    subst h
    have := hc n.toNat (by omega) w
    rw [Int.toNat_of_nonneg hn.1] at this
    refine this.mono fun e w' ⟨he, hw⟩ => ⟨_, he, rfl, ?_⟩
    subst hw; exact Keeps.refl _ _
  · cases h
def joinP (xs : List ByteArray) (sep : ByteArray) : Option ByteArray := if (Lib.join (xs.map (·.data.toList)) sep.data.toList).length ≤ 140737488355328 ∧ xs.length ≤ 140737488355328 then some ⟨(Lib.join (xs.map (·.data.toList)) sep.data.toList).toArray⟩ else none
theorem join_calls {P : Program} {f : FuncId} {T : TypeId} (hc : ∀ (bk o c : Nat) (xs : List ByteArray) (sep : ByteArray) (w : World) (_ : ∀ (j : Nat) x, xs[j]? = some x → w.cell? ⟨bk, o + j, none⟩ = some (.string x)) (_ : bk < w.heap.size) (_ : xs.length ≤ 140737488355328) (_ : xs.length ≤ c) (_ : (Lib.join (xs.map (·.data.toList)) sep.data.toList).length ≤ 140737488355328),
      Calls P f #[.slice (some ⟨bk, o, none⟩) xs.length c, .string sep] w fun e w' => e = .returned (.string ⟨(Lib.join (xs.map (·.data.toList)) sep.data.toList).toArray⟩) ∧ Below w.heap.size w w')
    (hn : ∀ (a : Option Addr) (c : Nat) (sep : ByteArray) (w : World), Calls P f #[.slice a 0 c, .string sep] w fun e w' => e = .returned (.string ByteArray.empty) ∧ w' = w)
    (xs : List ByteArray) (sep : ByteArray) (A : Option Addr) (c : Nat) (r : ByteArray) (w : World) (hO : RO NoS w (rowO T encStr A c xs)) (h : joinP xs sep = some r) : CallsR P f #[.slice A xs.length c, .string sep] w (fun v w' => v = .string r ∧ Keeps NoS w w') := by
  unfold joinP at h
  split at h
  · rename_i hj
    injection h with h
    subst h
    have hcap := rowO.cap hO.1
    cases xs with
    | nil =>
      refine (hn A c sep w).mono fun e w' ⟨he, hw⟩ => ⟨_, he, ?_, ?_⟩
      · rfl
      · subst hw; exact Keeps.refl _ _
    | cons x r =>
      have hR := rowO.rd hO.1
      have h0 := hR.1 0 x rfl
      have hO1 : w.ownsRow 0 T encStr.sz (.slice A (x :: r).length c) (x :: r).length ((x :: r).flatMap encStr.enc) := hO.1
      obtain ⟨bk, rfl⟩ : ∃ bk, A = some ⟨bk, 0, none⟩ := by
        rcases hO1.2 with ⟨h1, h2⟩ | ⟨g, cap, cur, hv, _⟩
        · simp at h2
        · injection hv with hv _ _
          exact ⟨g, hv⟩
      have hbk : bk < w.heap.size := (hO.2 bk ⟨_, rfl, rfl⟩).1
      refine (hc bk 0 c (x :: r) sep w (fun j y hy => ?_) hbk hj.2 hcap hj.1).mono fun e w' ⟨he, hw⟩ => ⟨_, he, rfl, Keeps.of_below hw⟩
      have := (hR.1 j y hy).2 0 (.string y) rfl
      have e1 : ((adr (some ⟨bk, 0, none⟩)).add (j * encStr.sz)).add 0 = ⟨bk, 0 + j, none⟩ := by
        unfold adr Addr.add encStr
        by_cases hj : j = 0 <;> simp [hj]
      rwa [e1] at this
  · cases h
def strEq (a b : ByteArray) : Bool := a.data.toList == b.data.toList
theorem strEq_raw (a b : ByteArray) : (a.toList == b.toList) = strEq a b := by unfold strEq; rw [ByteArray.toList_eq, ByteArray.toList_eq]
/-! ### strings, the second part: bytes, an index into a string, sums of strings, numbers as strings and back -/
def encU8 : Enc Int := ⟨1, fun x => [.int .u8 x], fun _ => rfl, fun x u h => by simp at h; subst h; rfl⟩
def u8s (s : ByteArray) : List Int := s.data.toList.map fun b => ((b.toNat : Nat) : Int)
theorem u8s_len (s : ByteArray) : (u8s s).length = s.size := by unfold u8s; rw [List.length_map]; rfl
inductive SOp (α : Type) where
  | index (t : TypeId) (x i : α)
  | conv (s t : TypeId) (x : α)
  | cat (x y : α)
def sgOp (o : Oper) : Option (Nat × SOp Operand) := match o.dst with
  | some d => (match o.op with
    | .index t x i => some (d, .index t x i)
    | .convert s t x => some (d, .conv s t x)
    | .binOp .add _ x y _ => some (d, .cat x y)
    | _ => none)
  | none => none
def sopSem : SOp Value → TypeId → Sem Value
  | .index t x i, _ => Instr.index t x i
  | .conv s t x, _ => convert s t x
  | .cat (.string a) (.string b), _ => Op.stringOp .add a b
  | .cat _ _, _ => stuck ""
def sopMap {α β : Type} (f : α → β) : SOp α → SOp β
  | .index t x i => .index t (f x) (f i)
  | .conv s t x => .conv s t (f x)
  | .cat x y => .cat (f x) (f y)
theorem sgOp_exec {P : Program} {o : Oper} {d : Nat} {r : SOp Operand} (h : sgOp o = some (d, r)) : o.dst = some d ∧ ∀ (ρ : Operand → Value) (w w1 : World) (v : Value), (sopSem (sopMap ρ r) o.type).run P w = .ok v w1 → (execOp ρ o).run P w = .ok (.value v) w1 := by
  unfold sgOp at h
  split at h
  · rename_i d' hd
    split at h
    · rename_i hop
      injection h with h; injection h with h1 h2
      subst h1 h2
      refine ⟨hd, fun ρ w w1 v hr => ?_⟩
      unfold execOp
      simp only [sopMap, sopSem] at hr
      simp only [hop, Sem.run_bind, hr, Result.andThen_ok, Sem.run_pure]
    · rename_i hop
      injection h with h; injection h with h1 h2
      subst h1 h2
      refine ⟨hd, fun ρ w w1 v hr => ?_⟩
      unfold execOp
      simp only [sopMap, sopSem] at hr
      simp only [hop, Sem.run_bind, hr, Result.andThen_ok, Sem.run_pure]
    · rename_i t x y u hop
      injection h with h; injection h with h1 h2
      subst h1 h2
      refine ⟨hd, fun ρ w w1 v hr => ?_⟩
      simp only [sopMap] at hr
      cases hx : ρ x with
      | string a =>
        cases hy : ρ y with
        | string b =>
          rw [hx, hy] at hr
          simp only [sopSem] at hr
          have hg : (eqGuard .add t x y (ρ x) (ρ y)).run P w = .ok () w := by
            unfold eqGuard; rfl
          have hb : (binOp .add t (ρ x) (ρ y)).run P w = .ok v w1 := by
            rw [hx, hy]; unfold binOp; exact hr
          unfold execOp
          simp only [hop, Sem.run_bind, hg, hb, Result.andThen_ok, Sem.run_pure]
        | _ => rw [hx, hy] at hr; simp only [sopSem] at hr; cases hr
      | _ => rw [hx] at hr; simp only [sopSem] at hr; cases hr
    · cases h
  · cases h
def evSi (P : Program) (ops : Array Oper) (lst : List (Nat × Oper)) (fl : List Nat) (N : Nat) (fb : Operand → Value) (i : Nat) (E : Env) : Option (Nat × SOp Value) :=
  match lst.drop i with
  | (k, o) :: _ => bif wantE ops E o && !memN k fl then (match sgOp o with
    | some (d, r) => bif Nat.blt d N then some (d, sopMap (rho E fb) r) else none
    | none => none) else none
  | [] => none
theorem WL.sop {P : Program} {ops : Array Oper} {lst : List (Nat × Oper)} {Q : Exit → Act → World → Prop} {F : FF} {N : Nat} {i : Nat} {E : Env} {w : World} {d : Nat} {r : SOp Value}
    (h : ∀ fb, evSi P ops lst F.2.1 N fb i E = some (d, r)) (v : Value) (hr : ∀ ty, (sopSem r ty).run P w = .ok v w)
    (k : CellsA F lst i w ∧ WL P ops lst Q F (i + 1) N ((d, v) :: E) w) : WL P ops lst Q F i N E w := by
  intro fb a ha
  have h := h fb
  unfold evSi at h
  split at h
  · rename_i k_ o rs ho
    cases hw2 : (wantE ops E o && !memN k_ F.2.1)
    · rw [hw2] at h; cases h
    · rw [hw2] at h
      simp only [cond_true] at h
      simp only [Bool.and_eq_true, Bool.not_eq_true'] at hw2
      obtain ⟨hw, hfl⟩ := hw2
      split at h
      · rename_i d' r' hap
        obtain ⟨hdst, hex⟩ := sgOp_exec (P := P) hap
        cases hb2 : (Nat.blt d' N)
        · rw [hb2] at h; cases h
        · rw [hb2] at h
          simp only [cond_true] at h
          injection h with h; injection h with h1 h2
          subst h1
          have hr2 := hex (rho E fb) w w v (by rw [h2]; exact hr o.type)
          rw [ho]
          unfold wpL
          rw [if_pos (wantE_of ha hw)]
          rw [if_neg (by rw [hfl]; simp)]; left
          unfold Oper.wpA
          rw [ha.ev, hr2]
          simp only [upA]
          have := k.2 fb (a.put o.dst _) (by rw [hdst]; exact ha.put (blt_lt hb2) _)
          rw [drop_cons ho] at this
          exact ⟨.inr (k.1.at ho), this⟩
      · cases h
  · cases h
theorem bts_run {P : Program} {src dst e : TypeId} (hs : P.underlying src = some (.slice e)) (he : P.underlying e = some (.int .u8)) (hd : P.underlying dst = some .string) {A : Option Addr} {c : Nat} {l : List Int} {w : World} (hR : (rowR encU8 A c l).ok w) : (convert src dst (.slice A l.length c)).run P w = .ok (.string (strOfNums l)) w := by
  cases l with
  | nil =>
    rw [run_convert_bytes_string w src dst e A _ c hs he hd]
    cases A with
    | none => rfl
    | some a =>
      have hl : (loadCells a 0).run P w = .ok (([] : List Int).map (Value.int .u8)).toArray w := by
        have := run_loadCells_list (P := P) w a [] (fun j v hj => by cases hj)
        simpa using this
      rw [show ([] : List Int).length = 0 from rfl, run_bytesToString w a 0 c [] hl]; rfl
  | cons x r =>
    have hA : A = some (adr A) := (hR.1 0 x rfl).1
    have hl : (loadCells (adr A) (x :: r).length).run P w = .ok ((x :: r).map (Value.int .u8)).toArray w := by
      have := run_loadCells_list (P := P) w (adr A) ((x :: r).map (Value.int .u8)) (fun j v hj => by
        rw [List.getElem?_map, Option.map_eq_some_iff] at hj
        obtain ⟨y, hy, rfl⟩ := hj
        have := (hR.1 j y hy).2 0 (.int .u8 y) rfl
        have e1 : ((adr A).add (j * encU8.sz)).add 0 = (adr A).add j := by
          show ((adr A).add (j * 1)).add 0 = _
          rw [Nat.mul_one]; unfold Addr.add; simp
        rwa [e1] at this)
      simpa using this
    rw [hA, run_convert_bytes_string w src dst e _ _ c hs he hd, run_bytesToString w _ _ c (x :: r) hl, foldl_push_bytes]
    simp [strOfNums, ByteArray.empty, ByteArray.emptyWithCapacity]
    rfl
theorem flat_u8 (l : List Int) : l.flatMap encU8.enc = l.map (Value.int .u8) := by
  induction l with
  | nil => rfl
  | cons a l ih => rw [List.flatMap_cons, ih]; rfl
theorem strCells_u8 (s : ByteArray) : Lib.strCells s = (u8s s).flatMap encU8.enc := by
  rw [flat_u8]
  unfold Lib.strCells u8s
  rw [List.map_map]; rfl
def evAs (P : Program) (ops : Array Oper) (lst : List (Nat × Oper)) (fl : List Nat) (N : Nat) (fb : Operand → Value) (i : Nat) (E : Env) : Option (Nat × TypeId × TypeId × Value × Value) :=
  match lst.drop i with
  | (k, o) :: _ => bif wantE ops E o && !memN k fl then (match apCall o with
    | some (d, s, x, t, u) => bif Nat.blt d N then some (d, t, u, rho E fb s, rho E fb x) else none
    | none => none) else none
  | [] => none
theorem WL.appendS {P : Program} {ops : Array Oper} {lst : List (Nat × Oper)} {Q : Exit → Act → World → Prop} {F : FF} {N : Nat} {i : Nat} {E : Env} {S : Nat → Prop} {w0 w : World} {R L : List Own} (hS : St S w0 w R L)
    (j : Nat) {T tS tX : TypeId} {A : Option Addr} {c : Nat} {xs : List Int} {s : ByteArray} {d : Nat} (hj : at_ L j = rowO T encU8 A c xs)
    (h : ∀ fb, evAs P ops lst F.2.1 N fb i E = some (d, tS, tX, .slice A xs.length c, .string s))
    (ht : P.underlying tS = some (.slice T)) (hu : P.underlying tX = some .string) (hinf : (P.info? T).map (fun i => (i.zero, i.size, i.bytes)) = some (some (.int .u8 0), 1, 1))
    (hl : xs.length + s.size ≤ 100000000000) (ks : List Nat) (hd : ∀ k, k ∈ ks → k ∉ [j]) (hn : ks.Nodup)
    (k : ∀ A' c' w1, St S w0 w1 R (rowO T encU8 A' c' (xs ++ u8s s) :: sel L ks) → CellsA F lst i w1 ∧ WL P ops lst Q F (i + 1) N ((d, .slice A' (xs ++ u8s s).length c') :: E) w1) : WL P ops lst Q F i N E w := by
  intro fb a ha
  have h := h fb
  unfold evAs at h
  split at h
  · rename_i k_ o r ho
    cases hw2 : (wantE ops E o && !memN k_ F.2.1)
    · rw [hw2] at h; cases h
    · rw [hw2] at h
      simp only [cond_true] at h
      simp only [Bool.and_eq_true, Bool.not_eq_true'] at hw2
      obtain ⟨hw, hfl⟩ := hw2
      split at h
      · rename_i d' s' x t u hap
        obtain ⟨hdst, hop⟩ := apCall_eq hap
        cases hb : (Nat.blt d' N)
        · rw [hb] at h; cases h
        · rw [hb] at h
          simp only [cond_true] at h
          injection h with h; injection h with h1 h2; injection h2 with h2 h3; injection h3 with h3 h4; injection h4 with h4 h5
          subst h1 h2 h3
          have hown : (rowO T encU8 A c xs).ok w := by have := (hS.own j).1; rw [hj] at this; exact this
          obtain ⟨i', hi', hz0, hz1, hz2⟩ := info_parts hinf
          obtain ⟨v', w', hr, hown', hg, _⟩ := Lib.run_append_own_string (P := P) (w := w) 0 t u o.type T i' ht hu hi' hz0 hz1 hz2 (.slice A xs.length c) xs.length (xs.flatMap encU8.enc) hown s (by unfold maxLen; omega) (by omega) (Nat.zero_le _)
          obtain ⟨A', c', rfl⟩ := own_form hown'
          have ho' : (rowO T encU8 A' c' (xs ++ u8s s)).ok w' := by
            show w'.ownsRow 0 T 1 (.slice A' (xs ++ u8s s).length c') (xs ++ u8s s).length ((xs ++ u8s s).flatMap encU8.enc)
            rw [List.length_append, u8s_len, List.flatMap_append, ← strCells_u8]
            exact hown'
          have hk' : Keeps (ownFp A) w w' := ⟨hg.os, hg.tape, hg.output, hg.size, fun k hk hn => hg.block k hk (fun e => by
            cases A with
            | none => simp [Value.ownBlock] at e
            | some a0 => simp [Value.ownBlock] at e; exact hn ⟨a0, rfl, e⟩)⟩
          have hf' : ∀ g, ownFp A' g → (ownFp A g ∨ w.heap.size ≤ g) ∧ g < w'.heap.size := fun g hgA => by
            obtain ⟨ad, rfl, rfl⟩ := hgA
            refine ⟨?_, (hown'.lt ad.block rfl).2⟩
            rcases hown.2 with ⟨hv, hn0⟩ | ⟨g, cap, cur, hv, _, hgc, _, hcm, hcs, _⟩
            · injection hv with hA hl0 hc0
              right
              have hx0 : xs = [] := List.eq_nil_of_length_eq_zero hl0
              subst hx0 hA hc0
              obtain ⟨v2, w2, hr2, ho2, _⟩ := Lib.run_append_own_string (P := P) (w := w) w.heap.size t u o.type T i' ht hu hi' hz0 hz1 hz2 (.slice none 0 0) 0 [] (World.ownsRow_nil w w.heap.size T 1) s (by unfold maxLen; simp at hl; omega) (by simp at hl; omega) (Nat.le_refl _)
              have he : (Result.ok v2 w2 : Result Value) = .ok (.slice (some ad) (([] : List Int).length + s.size) c') w' := hr2.symm.trans hr
              injection he with he1 he2
              subst he1 he2
              exact (ho2.lt ad.block rfl).1
            · injection hv with hA hl0 hc0
              subst hA hc0
              by_cases hroom : xs.length + s.size ≤ c
              · left
                have hr2 := Lib.run_append_room_string (P := P) (w := w) t u o.type T i' ht hu hi' hz1 g xs.length c cur hgc s hroom (by have : cur.size = c * 1 := hcs; omega)
                have he := hr2.symm.trans hr
                injection he with he1 he2
                injection he1 with he1 _ _
                injection he1 with he1
                exact ⟨_, rfl, congrArg Addr.block he1.symm⟩
              · right
                have hr2 := Lib.run_append_grow_string (P := P) (w := w) t u o.type T i' (.int .u8 0) ht hu hi' hz0 ⟨g, 0, none⟩ xs.length c (xs.flatMap encU8.enc) (by rw [hz1, flat_u8]; simp) (fun j v hj => hown.cells (g := g) rfl j v hj) s (by omega) (by omega) (by rw [hz2]; exact growslice_fits (by omega) (by omega))
                have he := hr2.symm.trans hr
                injection he with he1 he2
                injection he1 with he1 _ _
                injection he1 with he1
                rw [← he1]; exact Nat.le_refl _
          rw [ho]
          unfold wpL
          rw [if_pos (wantE_of ha hw)]
          rw [if_neg (by rw [hfl]; simp)]; left
          unfold Oper.wpA execOp
          rw [ha.ev]
          simp only [hop, resolve, invoke, builtin, Sem.run_bind, Sem.run_pure, Result.andThen_ok, List.map_toArray, List.map_cons, List.map_nil, h4, h5, hr, upA]
          have hS' := hS.call (St.one hk' ho' hf') [j] ks (fun g hg => ⟨j, by simp, by rw [hj]; exact hg⟩) hd hn
          have := (k A' c' w' hS').2 fb (a.put o.dst _) (by rw [hdst]; exact ha.put (blt_lt hb) _)
          rw [drop_cons ho] at this
          rw [List.length_append, u8s_len] at this
          exact ⟨.inr ((k A' c' w' hS').1.at ho), this⟩
      · cases h
  · cases h
/-- What the library's variables hold: the limit of a length, the powers of ten, the two errors. -/
structure Glo where
  m : Int
  es : Value
  er : Value
def isErr (v : Value) : Prop := v = .nilIface ∨ ∃ te pe, v = .iface te pe
def gloO (P : Program) (gm gt gs gr : Nat) (G : Glo) : Own :=
  ⟨fun k => k = gm ∨ k = gt ∨ k = gs ∨ k = gr,
   fun w => w.cell? ⟨gm, 0, none⟩ = some (.int .i64 G.m) ∧ (P.globalNamed "internal/strconv.uint64pow10" = some gt ∧ Lib.TabIs P w "internal/strconv.uint64pow10" .u64 Lib.pow10Tab) ∧ (w.cell? ⟨gs, 0, none⟩ = some G.es ∧ isErr G.es) ∧ (w.cell? ⟨gr, 0, none⟩ = some G.er ∧ isErr G.er),
   fun w w' h hk => by
    refine ⟨?_, ⟨hk.2.1.1, ?_⟩, ⟨?_, hk.2.2.1.2⟩, ⟨?_, hk.2.2.2.2⟩⟩
    · rw [World.cell?_of_block (w := w)]; exact hk.1; exact h gm (.inl rfl)
    · have h1 := hk.2.1.2
      unfold Lib.TabIs World.var? at h1 ⊢
      rw [hk.2.1.1] at h1 ⊢
      simp only [Option.bind_some] at h1 ⊢
      rw [h gt (.inr (.inl rfl))]; exact h1
    · rw [World.cell?_of_block (w := w)]; exact hk.2.2.1.1; exact h gs (.inr (.inr (.inl rfl)))
    · rw [World.cell?_of_block (w := w)]; exact hk.2.2.2.1; exact h gr (.inr (.inr (.inr rfl)))⟩
def itoaN (n : Int) : Option ByteArray := if -9223372036854775808 ≤ n ∧ n ≤ 9223372036854775807 then some ⟨(Lib.itoa n).toArray⟩ else none
theorem itoaN_calls {P : Program} {f : FuncId} (hc : ∀ (n : Int) (_ : -9223372036854775808 ≤ n) (_ : n ≤ 9223372036854775807) (w : World) (_ : Lib.TabIs P w "internal/strconv.uint64pow10" .u64 Lib.pow10Tab), Calls P f #[.int .i64 n] w fun e w' => e = .returned (.string ⟨(Lib.itoa n).toArray⟩) ∧ ∃ k os, w' = Sort.grow (w.drewN k) os)
    {gm gt gs gr : Nat} {G : Glo} (n : Int) (r : ByteArray) (w : World) (hG : RO NoS w (gloO P gm gt gs gr G)) (h : itoaN n = some r) : CallsR P f #[.int .i64 n] w (fun v w' => v = .string r ∧ Keeps NoS w w') := by
  unfold itoaN at h
  split at h
  · rename_i hn
    injection h with h
    subst h
    refine (hc n hn.1 hn.2 w hG.1.2.1.2).mono fun e w' ⟨he, hw⟩ => ⟨_, he, rfl, ?_⟩
    obtain ⟨k, os, rfl⟩ := hw
    exact ⟨rfl, rfl, rfl, by simp, fun j hj _ => by
      show (w.heap ++ os)[j]? = w.heap[j]?
      rw [Array.getElem?_append_left hj]⟩
  · cases h
def errV (b : Bool) (x : Value) : Prop := if b = true then ∃ te pe, x = .iface te pe else x = .nilIface
theorem errV_true {b : Bool} {x : Value} (hb : b = true) (h : errV b x) : ∃ te pe, x = .iface te pe := by unfold errV at h; rwa [if_pos hb] at h
theorem errV_false {b : Bool} {x : Value} (hb : b = false) (h : errV b x) : x = .nilIface := by unfold errV at h; rwa [if_neg (by rw [hb]; decide)] at h
def atoiN (s : ByteArray) : Option (Int × Bool) := if s.size ≤ 281474976710656 then some (match Lib.atoiAll s.data.toList with
  | .ok v => (v, false)
  | Lib.NumEnd.syntax => (0, true)
  | .range => (Lib.atoiSat s.data.toList, true)) else none
theorem atoiN_calls {P : Program} {f : FuncId} {T : TypeId} {gm gt gs gr : Nat} {t168 t210 : TypeId} (hc : ∀ (s : ByteArray) (_ : s.size ≤ 9223372036854775806) (v : Int) (_ : Lib.atoiAll s.data.toList = .ok v) (w : World), Calls P f #[.string s] w fun e w' => e = .returned (.tuple #[.int .i64 v, .nilIface]) ∧ (w' = w ∨ ∃ t, w' = Lib.bytesWorld w T t))
    (hs : ∀ (s : ByteArray) (_ : s.size ≤ 281474976710656) (_ : Lib.atoiAll s.data.toList = Lib.NumEnd.syntax) (ev : Value) (w : World) (_ : w.cell? ⟨gs, 0, none⟩ = some ev) (_ : ev = .nilIface ∨ ∃ te pe, ev = .iface te pe), Calls P f #[.string s] w fun e w' => ∃ N, e = .returned (.tuple #[.int .i64 (0), .iface t168 (.pointer (some ⟨N, 0, none⟩))]) ∧ w.heap.size ≤ N ∧ w'.heap[N]? = some (.cells #[.string ⟨#[65, 116, 111, 105]⟩, .string s, ev] t210 (0, 0)) ∧ Below w.heap.size w w')
    (hr : ∀ (s : ByteArray) (_ : s.size ≤ 281474976710656) (_ : Lib.atoiAll s.data.toList = .range) (ev : Value) (w : World) (_ : w.cell? ⟨gr, 0, none⟩ = some ev) (_ : ev = .nilIface ∨ ∃ te pe, ev = .iface te pe), Calls P f #[.string s] w fun e w' => ∃ N, e = .returned (.tuple #[.int .i64 (Lib.atoiSat s.data.toList), .iface t168 (.pointer (some ⟨N, 0, none⟩))]) ∧ w.heap.size ≤ N ∧ w'.heap[N]? = some (.cells #[.string ⟨#[65, 116, 111, 105]⟩, .string s, ev] t210 (0, 0)) ∧ Below w.heap.size w w')
    {G : Glo} (s : ByteArray) (r : Int × Bool) (w : World) (hG : RO NoS w (gloO P gm gt gs gr G)) (h : atoiN s = some r) : CallsR P f #[.string s] w (fun v w' => ∃ x, v = .tuple #[.int .i64 r.1, x] ∧ errV r.2 x ∧ Keeps NoS w w') := by
  unfold atoiN at h
  split at h
  · rename_i hsz
    injection h with h
    rcases ha : Lib.atoiAll s.data.toList with v | _ | _
    · rw [ha] at h; subst h
      refine (hc s (by omega) v ha w).mono fun e w' ⟨he, hw⟩ => ⟨_, he, _, rfl, rfl, ?_⟩
      rcases hw with rfl | ⟨t, rfl⟩
      · exact Keeps.refl _ _
      · exact Keeps.of_below (Lib.bytesWorld_below w T t)
    · rw [ha] at h; subst h
      refine (hs s hsz ha G.es w hG.1.2.2.1.1 hG.1.2.2.1.2).mono fun e w' ⟨N, he, _, _, hb⟩ => ⟨_, he, _, rfl, ⟨_, _, rfl⟩, Keeps.of_below hb⟩
    · rw [ha] at h; subst h
      refine (hr s hsz ha G.er w hG.1.2.2.2.1 hG.1.2.2.2.2).mono fun e w' ⟨N, he, _, _, hb⟩ => ⟨_, he, _, rfl, ⟨_, _, rfl⟩, Keeps.of_below hb⟩
  · cases h
theorem gloO.cel {P : Program} {gm gt gs gr : Nat} {G : Glo} {w : World} (h : RO NoS w (gloO P gm gt gs gr G)) : RO NoS w (cel ⟨gm, 0, none⟩ (.int .i64 G.m)) := ⟨h.1.1, fun g hg => h.2 g (.inl hg)⟩
end Gw
namespace Go.Proofs
open Go.Shelf
def Tryd.lays156_ren : Go.Shelf.Ren := ⟨fun | 156 => 65 | 165 => 79 | 166 => 80 | 169 => 81 | 240 => 90 | 241 => 91 | 276 => 103 | 277 => 104 | n => n, fun | 31 => 100 | 9 => 9 | 3 => 3 | 4 => 4 | 0 => 0 | 20 => 20 | 72 => 139 | 76 => 105 | 70 => 137 | 37 => 131 | 75 => 104 | 127 => 152 | 164 => 163 | 5 => 5 | 80 => 140 | n => n, fun | n => n⟩
theorem Tryd.lays156 : Go.Proofs.Lays.n156 Tryd.prog Tryd.lays156_ren := {
  mixed := by kernel_rfl
  f156 := Tryd.func65.trans (congrArg some (by kernel_rfl))
  f165 := Tryd.func79.trans (congrArg some (by kernel_rfl))
  f166 := Tryd.func80.trans (congrArg some (by kernel_rfl))
  f169 := Tryd.func81.trans (congrArg some (by kernel_rfl))
  f240 := Tryd.func90.trans (congrArg some (by kernel_rfl))
  f241 := Tryd.func91.trans (congrArg some (by kernel_rfl))
  f276 := Tryd.func103.trans (congrArg some (by kernel_rfl))
  f277 := Tryd.func104.trans (congrArg some (by kernel_rfl))
  t0 := Tryd.underlying0
  a0 := Tryd.isAgg0
  z0 := Tryd.sizeOf0
  v0 := Tryd.zeroValue0
  t3 := Tryd.underlying3
  a3 := Tryd.isAgg3
  z3 := Tryd.sizeOf3
  v3 := Tryd.zeroValue3
  t4 := Tryd.underlying4
  a4 := Tryd.isAgg4
  z4 := Tryd.sizeOf4
  v4 := Tryd.zeroValue4
  t9 := Tryd.underlying9
  a9 := Tryd.isAgg9
  z9 := Tryd.sizeOf9
  v9 := Tryd.zeroValue9
  t20 := Tryd.underlying20
  a20 := Tryd.isAgg20
  z20 := Tryd.sizeOf20
  v20 := Tryd.zeroValue20
  t31 := Tryd.underlying100
  a31 := Tryd.isAgg100
  z31 := Tryd.sizeOf100
  v31 := Tryd.zeroValue100
  t37 := Tryd.underlying131
  a37 := Tryd.isAgg131
  z37 := Tryd.sizeOf131
  v37 := Tryd.zeroValue131
  t70 := Tryd.underlying137
  a70 := Tryd.isAgg137
  z70 := Tryd.sizeOf137
  v70 := Tryd.zeroValue137
  t72 := Tryd.underlying139
  a72 := Tryd.isAgg139
  z72 := Tryd.sizeOf139
  v72 := Tryd.zeroValue139
  t75 := Tryd.underlying104
  a75 := Tryd.isAgg104
  z75 := Tryd.sizeOf104
  v75 := Tryd.zeroValue104
  t76 := Tryd.underlying105
  a76 := Tryd.isAgg105
  z76 := Tryd.sizeOf105
  v76 := Tryd.zeroValue105
  t127 := Tryd.underlying152
  a127 := Tryd.isAgg152
  z127 := Tryd.sizeOf152
  v127 := Tryd.zeroValue152
  t164 := Tryd.underlying163
  a164 := Tryd.isAgg163
  z164 := Tryd.sizeOf163
  v164 := Tryd.zeroValue163 }
theorem Tryd.Builder_Extra_156 : Builder.Extra Tryd.prog Tryd.lays156_ren := {
  sizeBuilder := by kernel_rfl
  liesBuilder := by kernel_rfl
  t5 := Tryd.underlying5
  a5 := Tryd.isAgg5
  z5 := Tryd.sizeOf5
  v5 := Tryd.zeroValue5
  infoByte := by kernel_rfl
  cellsByte := by kernel_rfl
  sizeByte := by kernel_rfl
  neB5 := by decide }
open Go.RowKit in
theorem Tryd.strings_Join_none (a : Option Addr) (c : Nat) (sep : ByteArray) (w : World) :
    Calls Tryd.prog 65 #[.slice a 0 c, .string sep] w fun e w' => e = .returned (.string ⟨#[]⟩) ∧ w' = w := Any.strings_Join_none Tryd.lays156 Tryd.Builder_Extra_156 a c sep w
open Go.RowKit in
theorem Tryd.strings_Join (bk o c : Nat) (xs : List ByteArray) (sep : ByteArray) (w : World) (hcells : ∀ (j : Nat) x, xs[j]? = some x → w.cell? ⟨bk, o + j, none⟩ = some (.string x)) (hbk : bk < w.heap.size) (hN : xs.length ≤ 140737488355328) (hcap : xs.length ≤ c) (hlen : (Lib.join (xs.map (·.data.toList)) sep.data.toList).length ≤ 140737488355328) :
    Calls Tryd.prog 65 #[.slice (some ⟨bk, o, none⟩) xs.length c, .string sep] w fun e w' => e = .returned (.string ⟨(Lib.join (xs.map (·.data.toList)) sep.data.toList).toArray⟩) ∧ Below w.heap.size w w' := Any.strings_Join Tryd.lays156 Tryd.Builder_Extra_156 bk o c xs sep w hcells hbk hN hcap hlen
def Tryd.laysM171_ren : Go.Shelf.Ren := ⟨fun | 171 => 64 | 243 => 78 | 246 => 89 | 283 => 99 | 284 => 100 | 285 => 101 | 286 => 102 | 129 => 108 | 317 => 107 | 318 => 109 | 319 => 110 | 320 => 111 | 337 => 112 | 338 => 113 | n => n, fun | 3 => 3 | 9 => 9 | 2 => 2 | 4 => 4 | 171 => 159 | 0 => 0 | 53 => 69 | 37 => 131 | 5 => 5 | 173 => 161 | 212 => 174 | 51 => 170 | 20 => 20 | 213 => 175 | 46 => 114 | 232 => 178 | 233 => 179 | n => n, fun | 17 => 5 | 18 => 6 | 19 => 7 | n => n⟩
theorem Tryd.laysM171 : Go.Proofs.LaysM.n171 Tryd.prog Tryd.laysM171_ren := {
  mixed := by kernel_rfl
  f129 := Tryd.func108.trans (congrArg some (by kernel_rfl))
  f171 := Tryd.func64.trans (congrArg some (by kernel_rfl))
  f243 := Tryd.func78.trans (congrArg some (by kernel_rfl))
  f246 := Tryd.func89.trans (congrArg some (by kernel_rfl))
  f283 := Tryd.func99.trans (congrArg some (by kernel_rfl))
  f284 := Tryd.func100.trans (congrArg some (by kernel_rfl))
  f285 := Tryd.func101.trans (congrArg some (by kernel_rfl))
  f286 := Tryd.func102.trans (congrArg some (by kernel_rfl))
  f317 := Tryd.func107.trans (congrArg some (by kernel_rfl))
  f318 := Tryd.func109.trans (congrArg some (by kernel_rfl))
  f319 := Tryd.func110.trans (congrArg some (by kernel_rfl))
  f320 := Tryd.func111.trans (congrArg some (by kernel_rfl))
  f337 := Tryd.func112.trans (congrArg some (by kernel_rfl))
  f338 := Tryd.func113.trans (congrArg some (by kernel_rfl))
  t0 := Tryd.underlying0
  a0 := Tryd.isAgg0
  z0 := Tryd.sizeOf0
  v0 := Tryd.zeroValue0
  t2 := Tryd.underlying2
  a2 := Tryd.isAgg2
  z2 := Tryd.sizeOf2
  v2 := Tryd.zeroValue2
  t3 := Tryd.underlying3
  a3 := Tryd.isAgg3
  z3 := Tryd.sizeOf3
  v3 := Tryd.zeroValue3
  t4 := Tryd.underlying4
  a4 := Tryd.isAgg4
  z4 := Tryd.sizeOf4
  v4 := Tryd.zeroValue4
  t5 := Tryd.underlying5
  a5 := Tryd.isAgg5
  z5 := Tryd.sizeOf5
  v5 := Tryd.zeroValue5
  t9 := Tryd.underlying9
  a9 := Tryd.isAgg9
  z9 := Tryd.sizeOf9
  v9 := Tryd.zeroValue9
  t20 := Tryd.underlying20
  a20 := Tryd.isAgg20
  z20 := Tryd.sizeOf20
  v20 := Tryd.zeroValue20
  t37 := Tryd.underlying131
  a37 := Tryd.isAgg131
  z37 := Tryd.sizeOf131
  v37 := Tryd.zeroValue131
  t46 := Tryd.underlying114
  a46 := Tryd.isAgg114
  z46 := Tryd.sizeOf114
  v46 := Tryd.zeroValue114
  t51 := Tryd.underlying170
  a51 := Tryd.isAgg170
  z51 := Tryd.sizeOf170
  v51 := Tryd.zeroValue170
  t53 := Tryd.underlying69
  a53 := Tryd.isAgg69
  z53 := Tryd.sizeOf69
  v53 := Tryd.zeroValue69
  t171 := Tryd.underlying159
  a171 := Tryd.isAgg159
  z171 := Tryd.sizeOf159
  v171 := Tryd.zeroValue159
  t173 := Tryd.underlying161
  a173 := Tryd.isAgg161
  z173 := Tryd.sizeOf161
  v173 := Tryd.zeroValue161
  t212 := Tryd.underlying174
  a212 := Tryd.isAgg174
  z212 := Tryd.sizeOf174
  v212 := Tryd.zeroValue174
  t213 := Tryd.underlying175
  a213 := Tryd.isAgg175
  z213 := Tryd.sizeOf175
  t232 := Tryd.underlying178
  a232 := Tryd.isAgg178
  z232 := Tryd.sizeOf178
  v232 := Tryd.zeroValue178
  t233 := Tryd.underlying179
  a233 := Tryd.isAgg179
  z233 := Tryd.sizeOf179
  v233 := Tryd.zeroValue179
  g17 := by kernel_rfl
  g18 := by kernel_rfl
  g19 := by kernel_rfl
  i0 := by kernel_rfl
  i2 := by kernel_rfl
  i3 := by kernel_rfl
  i4 := by kernel_rfl
  i5 := by kernel_rfl
  i9 := by kernel_rfl
  i20 := by kernel_rfl
  i37 := by kernel_rfl
  i46 := by kernel_rfl
  i51 := by kernel_rfl
  i53 := by kernel_rfl
  i171 := by kernel_rfl
  i173 := by kernel_rfl
  i212 := by kernel_rfl
  i232 := by kernel_rfl
  i233 := by kernel_rfl
  m17 := by kernel_rfl
  m18 := by kernel_rfl
  m19 := by kernel_rfl }
open Go.RowKit Go.Sort Go.Lib in
theorem Tryd.strconv_Itoa (n : Int) (h0 : -9223372036854775808 ≤ n) (h1 : n ≤ 9223372036854775807) (w : World) (htab : Lib.TabIs Tryd.prog w "internal/strconv.uint64pow10" .u64 Lib.pow10Tab) :
    Calls Tryd.prog 64 #[.int .i64 n] w fun e w' => e = .returned (.string ⟨(Lib.itoa n).toArray⟩) ∧ ∃ k os, w' = grow (w.drewN k) os := Any.strconv_Itoa Tryd.laysM171 n h0 h1 w htab
def Tryd.laysC172_ren : Go.Shelf.Ren := ⟨fun | 172 => 45 | 244 => 62 | 245 => 63 | 247 => 73 | 279 => 74 | 280 => 75 | 281 => 76 | 282 => 77 | 287 => 86 | 316 => 87 | 171 => 64 | 205 => 88 | 321 => 97 | 322 => 98 | 243 => 78 | 246 => 89 | 283 => 99 | 284 => 100 | 285 => 101 | 286 => 102 | 129 => 108 | 317 => 107 | 318 => 109 | 319 => 110 | 320 => 111 | 337 => 112 | 338 => 113 | n => n, fun | 9 => 9 | 3 => 3 | 75 => 104 | 76 => 105 | 4 => 4 | 5 => 5 | 167 => 130 | 37 => 131 | 0 => 0 | 85 => 132 | 2 => 2 | 168 => 134 | 53 => 69 | 175 => 145 | 46 => 114 | 210 => 149 | 127 => 152 | 145 => 158 | 143 => 156 | 21 => 21 | 171 => 159 | 173 => 161 | 212 => 174 | 51 => 170 | 20 => 20 | 213 => 175 | 232 => 178 | 233 => 179 | 80 => 140 | n => n, fun | 15 => 0 | 16 => 1 | 17 => 5 | 18 => 6 | 19 => 7 | n => n⟩
theorem Tryd.laysC172 : Go.Proofs.LaysC.n172 Tryd.prog Tryd.laysC172_ren := {
  mixed := by kernel_rfl
  f129 := Tryd.func108.trans (congrArg some (by kernel_rfl))
  f171 := Tryd.func64.trans (congrArg some (by kernel_rfl))
  f172 := Tryd.func45.trans (congrArg some (by kernel_rfl))
  f205 := Tryd.func88.trans (congrArg some (by kernel_rfl))
  f243 := Tryd.func78.trans (congrArg some (by kernel_rfl))
  f244 := Tryd.func62.trans (congrArg some (by kernel_rfl))
  f245 := Tryd.func63.trans (congrArg some (by kernel_rfl))
  f246 := Tryd.func89.trans (congrArg some (by kernel_rfl))
  f247 := Tryd.func73.trans (congrArg some (by kernel_rfl))
  f279 := Tryd.func74.trans (congrArg some (by kernel_rfl))
  f280 := Tryd.func75.trans (congrArg some (by kernel_rfl))
  f281 := Tryd.func76.trans (congrArg some (by kernel_rfl))
  f282 := Tryd.func77.trans (congrArg some (by kernel_rfl))
  f283 := Tryd.func99.trans (congrArg some (by kernel_rfl))
  f284 := Tryd.func100.trans (congrArg some (by kernel_rfl))
  f285 := Tryd.func101.trans (congrArg some (by kernel_rfl))
  f286 := Tryd.func102.trans (congrArg some (by kernel_rfl))
  f287 := Tryd.func86.trans (congrArg some (by kernel_rfl))
  f316 := Tryd.func87.trans (congrArg some (by kernel_rfl))
  f317 := Tryd.func107.trans (congrArg some (by kernel_rfl))
  f318 := Tryd.func109.trans (congrArg some (by kernel_rfl))
  f319 := Tryd.func110.trans (congrArg some (by kernel_rfl))
  f320 := Tryd.func111.trans (congrArg some (by kernel_rfl))
  f321 := Tryd.func97.trans (congrArg some (by kernel_rfl))
  f322 := Tryd.func98.trans (congrArg some (by kernel_rfl))
  f337 := Tryd.func112.trans (congrArg some (by kernel_rfl))
  f338 := Tryd.func113.trans (congrArg some (by kernel_rfl))
  t0 := Tryd.underlying0
  a0 := Tryd.isAgg0
  z0 := Tryd.sizeOf0
  v0 := Tryd.zeroValue0
  t2 := Tryd.underlying2
  a2 := Tryd.isAgg2
  z2 := Tryd.sizeOf2
  v2 := Tryd.zeroValue2
  t3 := Tryd.underlying3
  a3 := Tryd.isAgg3
  z3 := Tryd.sizeOf3
  v3 := Tryd.zeroValue3
  t4 := Tryd.underlying4
  a4 := Tryd.isAgg4
  z4 := Tryd.sizeOf4
  v4 := Tryd.zeroValue4
  t5 := Tryd.underlying5
  a5 := Tryd.isAgg5
  z5 := Tryd.sizeOf5
  v5 := Tryd.zeroValue5
  t9 := Tryd.underlying9
  a9 := Tryd.isAgg9
  z9 := Tryd.sizeOf9
  v9 := Tryd.zeroValue9
  t20 := Tryd.underlying20
  a20 := Tryd.isAgg20
  z20 := Tryd.sizeOf20
  v20 := Tryd.zeroValue20
  t21 := Tryd.underlying21
  a21 := Tryd.isAgg21
  z21 := Tryd.sizeOf21
  v21 := Tryd.zeroValue21
  t37 := Tryd.underlying131
  a37 := Tryd.isAgg131
  z37 := Tryd.sizeOf131
  v37 := Tryd.zeroValue131
  t46 := Tryd.underlying114
  a46 := Tryd.isAgg114
  z46 := Tryd.sizeOf114
  v46 := Tryd.zeroValue114
  t51 := Tryd.underlying170
  a51 := Tryd.isAgg170
  z51 := Tryd.sizeOf170
  v51 := Tryd.zeroValue170
  t53 := Tryd.underlying69
  a53 := Tryd.isAgg69
  z53 := Tryd.sizeOf69
  v53 := Tryd.zeroValue69
  t75 := Tryd.underlying104
  a75 := Tryd.isAgg104
  z75 := Tryd.sizeOf104
  v75 := Tryd.zeroValue104
  t76 := Tryd.underlying105
  a76 := Tryd.isAgg105
  z76 := Tryd.sizeOf105
  v76 := Tryd.zeroValue105
  t85 := Tryd.underlying132
  a85 := Tryd.isAgg132
  z85 := Tryd.sizeOf132
  v85 := Tryd.zeroValue132
  t127 := Tryd.underlying152
  a127 := Tryd.isAgg152
  z127 := Tryd.sizeOf152
  v127 := Tryd.zeroValue152
  t143 := Tryd.underlying156
  a143 := Tryd.isAgg156
  z143 := Tryd.sizeOf156
  v143 := Tryd.zeroValue156
  t145 := Tryd.underlying158
  a145 := Tryd.isAgg158
  z145 := Tryd.sizeOf158
  v145 := Tryd.zeroValue158
  t167 := Tryd.underlying130
  a167 := Tryd.isAgg130
  z167 := Tryd.sizeOf130
  v167 := Tryd.zeroValue130
  t168 := Tryd.underlying134
  a168 := Tryd.isAgg134
  z168 := Tryd.sizeOf134
  v168 := Tryd.zeroValue134
  t171 := Tryd.underlying159
  a171 := Tryd.isAgg159
  z171 := Tryd.sizeOf159
  v171 := Tryd.zeroValue159
  t173 := Tryd.underlying161
  a173 := Tryd.isAgg161
  z173 := Tryd.sizeOf161
  v173 := Tryd.zeroValue161
  t175 := Tryd.underlying145
  a175 := Tryd.isAgg145
  z175 := Tryd.sizeOf145
  v175 := Tryd.zeroValue145
  t210 := Tryd.underlying149
  a210 := Tryd.isAgg149
  z210 := Tryd.sizeOf149
  v210 := Tryd.zeroValue149
  t212 := Tryd.underlying174
  a212 := Tryd.isAgg174
  z212 := Tryd.sizeOf174
  v212 := Tryd.zeroValue174
  t213 := Tryd.underlying175
  a213 := Tryd.isAgg175
  z213 := Tryd.sizeOf175
  t232 := Tryd.underlying178
  a232 := Tryd.isAgg178
  z232 := Tryd.sizeOf178
  v232 := Tryd.zeroValue178
  t233 := Tryd.underlying179
  a233 := Tryd.isAgg179
  z233 := Tryd.sizeOf179
  v233 := Tryd.zeroValue179
  g15 := by kernel_rfl
  g16 := by kernel_rfl
  g17 := by kernel_rfl
  g18 := by kernel_rfl
  g19 := by kernel_rfl
  t80 := Tryd.underlying140
  a80 := Tryd.isAgg140
  z80 := Tryd.sizeOf140
  v80 := Tryd.zeroValue140
  i0 := by kernel_rfl
  i2 := by kernel_rfl
  i3 := by kernel_rfl
  i4 := by kernel_rfl
  i5 := by kernel_rfl
  i9 := by kernel_rfl
  i20 := by kernel_rfl
  i21 := by kernel_rfl
  i37 := by kernel_rfl
  i46 := by kernel_rfl
  i51 := by kernel_rfl
  i53 := by kernel_rfl
  i75 := by kernel_rfl
  i76 := by kernel_rfl
  i80 := by kernel_rfl
  i85 := by kernel_rfl
  i127 := by kernel_rfl
  i143 := by kernel_rfl
  i145 := by kernel_rfl
  i167 := by kernel_rfl
  i168 := by kernel_rfl
  i171 := by kernel_rfl
  i173 := by kernel_rfl
  i175 := by kernel_rfl
  i210 := by kernel_rfl
  i212 := by kernel_rfl
  i232 := by kernel_rfl
  i233 := by kernel_rfl
  m15 := by kernel_rfl
  m16 := by kernel_rfl
  m17 := by kernel_rfl
  m18 := by kernel_rfl
  m19 := by kernel_rfl
  c0 := by kernel_rfl
  c2 := by kernel_rfl
  c3 := by kernel_rfl
  c4 := by kernel_rfl
  c5 := by kernel_rfl
  c9 := by kernel_rfl
  c20 := by kernel_rfl
  c21 := by kernel_rfl
  c37 := by kernel_rfl
  c46 := by kernel_rfl
  c51 := by kernel_rfl
  c53 := by kernel_rfl
  c75 := by kernel_rfl
  c76 := by kernel_rfl
  c80 := by kernel_rfl
  c85 := by kernel_rfl
  c127 := by kernel_rfl
  c143 := by kernel_rfl
  c145 := by kernel_rfl
  c167 := by kernel_rfl
  c168 := by kernel_rfl
  c171 := by kernel_rfl
  c173 := by kernel_rfl
  c175 := by kernel_rfl
  c210 := by kernel_rfl
  c212 := by kernel_rfl
  c213 := by kernel_rfl
  c232 := by kernel_rfl
  c233 := by kernel_rfl }
open Go.RowKit in
theorem Tryd.strconv_Atoi_ok (s : ByteArray) (hmax : s.size ≤ 9223372036854775806) (v : Int) (h : Lib.atoiAll s.data.toList = .ok v) (w : World) :
    Calls Tryd.prog 45 #[.string s] w fun e w' => e = .returned (.tuple #[.int .i64 v, .nilIface]) ∧ (w' = w ∨ ∃ t, w' = Lib.bytesWorld w 5 t) := Any.strconv_Atoi_ok Tryd.laysC172 s hmax v h w
open Go.RowKit in
theorem Tryd.strconv_Atoi_syntax (s : ByteArray) (hlim : s.size ≤ 281474976710656) (h : Lib.atoiAll s.data.toList = Lib.NumEnd.syntax) (ev : Value) (w : World) (hv : w.cell? ⟨0, 0, none⟩ = some ev) (hev : ev = .nilIface ∨ ∃ te pe, ev = .iface te pe) :
    Calls Tryd.prog 45 #[.string s] w fun e w' => ∃ N, e = .returned (.tuple #[.int .i64 (0), .iface 134 (.pointer (some ⟨N, 0, none⟩))]) ∧ w.heap.size ≤ N ∧ w'.heap[N]? = some (.cells #[.string ⟨#[65, 116, 111, 105]⟩, .string s, ev] 149 (0, 0)) ∧ Below w.heap.size w w' := Any.strconv_Atoi_syntax Tryd.laysC172 s hlim h ev w hv hev
open Go.RowKit in
theorem Tryd.strconv_Atoi_range (s : ByteArray) (hlim : s.size ≤ 281474976710656) (h : Lib.atoiAll s.data.toList = .range) (ev : Value) (w : World) (hv : w.cell? ⟨1, 0, none⟩ = some ev) (hev : ev = .nilIface ∨ ∃ te pe, ev = .iface te pe) :
    Calls Tryd.prog 45 #[.string s] w fun e w' => ∃ N, e = .returned (.tuple #[.int .i64 (Lib.atoiSat s.data.toList), .iface 134 (.pointer (some ⟨N, 0, none⟩))]) ∧ w.heap.size ≤ N ∧ w'.heap[N]? = some (.cells #[.string ⟨#[65, 116, 111, 105]⟩, .string s, ev] 149 (0, 0)) ∧ Below w.heap.size w w' := Any.strconv_Atoi_range Tryd.laysC172 s hlim h ev w hv hev
def Tryd.lays146_ren : Go.Shelf.Ren := ⟨fun | 146 => 44 | 221 => 61 | 268 => 70 | 138 => 71 | 143 => 72 | 195 => 82 | 197 => 83 | 218 => 84 | 219 => 85 | 260 => 92 | 217 => 93 | 225 => 94 | 224 => 95 | 267 => 96 | 266 => 105 | 314 => 106 | n => n, fun | 9 => 9 | 31 => 100 | 3 => 3 | 4 => 4 | 0 => 0 | 105 => 142 | 21 => 21 | 5 => 5 | 46 => 114 | 119 => 166 | 139 => 169 | 138 => 168 | 146 => 171 | 51 => 170 | n => n, fun | 1 => 2 | 3 => 3 | 4 => 4 | n => n⟩
theorem Tryd.lays146 : Go.Proofs.Lays.n146 Tryd.prog Tryd.lays146_ren := {
  mixed := by kernel_rfl
  f138 := Tryd.func71.trans (congrArg some (by kernel_rfl))
  f143 := Tryd.func72.trans (congrArg some (by kernel_rfl))
  f146 := Tryd.func44.trans (congrArg some (by kernel_rfl))
  f195 := Tryd.func82.trans (congrArg some (by kernel_rfl))
  f197 := Tryd.func83.trans (congrArg some (by kernel_rfl))
  f217 := Tryd.func93.trans (congrArg some (by kernel_rfl))
  f218 := Tryd.func84.trans (congrArg some (by kernel_rfl))
  f219 := Tryd.func85.trans (congrArg some (by kernel_rfl))
  f221 := Tryd.func61.trans (congrArg some (by kernel_rfl))
  f224 := Tryd.func95.trans (congrArg some (by kernel_rfl))
  f225 := Tryd.func94.trans (congrArg some (by kernel_rfl))
  f260 := Tryd.func92.trans (congrArg some (by kernel_rfl))
  f266 := Tryd.func105.trans (congrArg some (by kernel_rfl))
  f267 := Tryd.func96.trans (congrArg some (by kernel_rfl))
  f268 := Tryd.func70.trans (congrArg some (by kernel_rfl))
  f314 := Tryd.func106.trans (congrArg some (by kernel_rfl))
  t0 := Tryd.underlying0
  a0 := Tryd.isAgg0
  z0 := Tryd.sizeOf0
  v0 := Tryd.zeroValue0
  t3 := Tryd.underlying3
  a3 := Tryd.isAgg3
  z3 := Tryd.sizeOf3
  v3 := Tryd.zeroValue3
  t4 := Tryd.underlying4
  a4 := Tryd.isAgg4
  z4 := Tryd.sizeOf4
  v4 := Tryd.zeroValue4
  t5 := Tryd.underlying5
  a5 := Tryd.isAgg5
  z5 := Tryd.sizeOf5
  v5 := Tryd.zeroValue5
  t9 := Tryd.underlying9
  a9 := Tryd.isAgg9
  z9 := Tryd.sizeOf9
  v9 := Tryd.zeroValue9
  t21 := Tryd.underlying21
  a21 := Tryd.isAgg21
  z21 := Tryd.sizeOf21
  v21 := Tryd.zeroValue21
  t31 := Tryd.underlying100
  a31 := Tryd.isAgg100
  z31 := Tryd.sizeOf100
  v31 := Tryd.zeroValue100
  t46 := Tryd.underlying114
  a46 := Tryd.isAgg114
  z46 := Tryd.sizeOf114
  v46 := Tryd.zeroValue114
  t51 := Tryd.underlying170
  a51 := Tryd.isAgg170
  z51 := Tryd.sizeOf170
  v51 := Tryd.zeroValue170
  t105 := Tryd.underlying142
  a105 := Tryd.isAgg142
  z105 := Tryd.sizeOf142
  v105 := Tryd.zeroValue142
  t119 := Tryd.underlying166
  a119 := Tryd.isAgg166
  z119 := Tryd.sizeOf166
  t138 := Tryd.underlying168
  a138 := Tryd.isAgg168
  z138 := Tryd.sizeOf168
  v138 := Tryd.zeroValue168
  t139 := Tryd.underlying169
  a139 := Tryd.isAgg169
  z139 := Tryd.sizeOf169
  v139 := Tryd.zeroValue169
  t146 := Tryd.underlying171
  a146 := Tryd.isAgg171
  z146 := Tryd.sizeOf171
  v146 := Tryd.zeroValue171
  g1 := by kernel_rfl
  g3 := by kernel_rfl
  g4 := by kernel_rfl }
open Go.RowKit Go.Lib in
theorem Tryd.strings_Split (s sep : ByteArray) (m : Int) (w : World) (hs : s.size < 4294967281) (hm : w.cell? ⟨2, 0, none⟩ = some (.int .i64 m)) (h1 : 1 ≤ sep.size) :
    Calls Tryd.prog 44 #[.string s, .string sep] w fun e w' =>
      e = .returned (.slice (some ⟨w.heap.size, 0, none⟩) (Lib.countB s sep + 1) (Lib.countB s sep + 1)) ∧ w' = w.alloc (.cells ((Lib.splitB sep 0 (Lib.countB s sep) s).map Value.string).toArray 9) := Any.strings_Split Tryd.lays146 (by kernel_rfl) s sep m w hs hm h1
end Go.Proofs
