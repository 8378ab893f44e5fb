import PyProof.Rows.All
import Wide.All
import OpenK.AllK
import Wide.FinOn
import HandS.ForMost
import HandS.IsInst
import HandS.Style
import HandS.TupLe
import HandS.Zip
import HandS.Evl
import HandS.WideBits
import PyProof.ListRange
import PySem.Challenge.RW_notchledger_k63_whole_many_laid_in_any_o
set_option Elab.async false
set_option linter.all false
set_option maxRecDepth 100000
set_option maxHeartbeats 4000000
/-! The plain mathematics: what cuts laid together read. -/
namespace Nl
inductive How where
  | g
  | e
  | h
/-- what cuts read, in a table -/
def rd (tb : List (Option Int)) (c : Nat) : Option Int := tb.getD c none
/-- whether two numbers' cuts read together, as r, by the word -/
def lays (w : How) (x y : Int) (r : Option Int) : Bool :=
  match w with
  | .g => decide (r = some (max x y))
  | .e => decide (r = some x) || decide (r = some y)
  | .h => decide (r = none) || (decide (r = some x) || decide (r = some y))
def AllLay (w : How) (tb : List (Option Int)) : Prop := ∀ (a b : Nat) (x y : Int), rd tb a = some x → rd tb b = some y → lays w x y (rd tb (a ||| b)) = true
/-- the word isn't kept at a and b -/
def NotAt (w : How) (tb : List (Option Int)) (a b : Nat) : Prop := ∃ x y : Int, rd tb a = some x ∧ rd tb b = some y ∧ lays w x y (rd tb (a ||| b)) = false
theorem max_or (x y : Int) : max x y = x ∨ max x y = y := by omega
theorem lays_ge {x y : Int} {r : Option Int} (h : lays .g x y r = true) : lays .e x y r = true := by
  have e : r = some (max x y) := of_decide_eq_true h
  show (decide (r = some x) || decide (r = some y)) = true
  rw [e]
  rcases max_or x y with q | q <;> rw [q] <;> simp
theorem lays_eh {x y : Int} {r : Option Int} (h : lays .e x y r = true) : lays .h x y r = true := by
  have e : (decide (r = some x) || decide (r = some y)) = true := h
  show (decide (r = none) || (decide (r = some x) || decide (r = some y))) = true
  rw [e, Bool.or_true]
theorem all_ge {tb : List (Option Int)} (h : AllLay .g tb) : AllLay .e tb := fun a b x y ha hb => lays_ge (h a b x y ha hb)
theorem all_eh {tb : List (Option Int)} (h : AllLay .e tb) : AllLay .h tb := fun a b x y ha hb => lays_eh (h a b x y ha hb)
theorem not_all {w : How} {tb : List (Option Int)} {a b : Nat} (h : NotAt w tb a b) : ¬ AllLay w tb := fun k => by
  obtain ⟨x, y, ha, hb, hl⟩ := h
  rw [k a b x y ha hb] at hl
  cases hl
/-- by whatever word: where it isn't kept the greater one is not read -/
theorem not_max {w : How} {x y : Int} {r : Option Int} (h : lays w x y r = false) : r ≠ some (max x y) := by
  intro e
  subst e
  have g : lays .g x y (some (max x y)) = true := decide_eq_true rfl
  cases w with
  | g => rw [g] at h; cases h
  | e => rw [lays_ge g] at h; cases h
  | h => rw [lays_eh (lays_ge g)] at h; cases h
/-- many laid together -/
def lor (cs : List Nat) : Nat := cs.foldl (· ||| ·) 0
theorem lor_cons (a : Nat) (r : List Nat) : lor (a :: r) = r.foldl (· ||| ·) a := by
  show r.foldl (· ||| ·) (0 ||| a) = _
  rw [Nat.zero_or]
theorem foldl_lt {n : Nat} : ∀ (cs : List Nat) (a : Nat), a < 2 ^ n → (∀ c ∈ cs, c < 2 ^ n) → cs.foldl (· ||| ·) a < 2 ^ n
  | [], _, ha, _ => ha
  | c :: r, a, ha, h => foldl_lt r (a ||| c) (Nat.or_lt_two_pow ha (h c List.mem_cons_self)) fun d hd => h d (List.mem_cons_of_mem _ hd)
theorem lor_lt {n : Nat} {cs : List Nat} (h : ∀ c ∈ cs, c < 2 ^ n) : lor cs < 2 ^ n := foldl_lt cs 0 (Nat.two_pow_pos n) h
theorem fold_e {tb : List (Option Int)} (A : AllLay .e tb) : ∀ (cs : List Nat) (c0 : Nat) (x0 : Int), rd tb c0 = some x0 → (∀ c ∈ cs, ∃ y, rd tb c = some y) →
    ∃ m, rd tb (cs.foldl (· ||| ·) c0) = some m ∧ (m = x0 ∨ ∃ c ∈ cs, rd tb c = some m)
  | [], c0, x0, h0, _ => ⟨x0, h0, .inl rfl⟩
  | c :: r, c0, x0, h0, h => by
    obtain ⟨y, hy⟩ := h c List.mem_cons_self
    have q := A c0 c x0 y h0 hy
    have q2 : rd tb (c0 ||| c) = some x0 ∨ rd tb (c0 ||| c) = some y := by
      have q3 : (decide (rd tb (c0 ||| c) = some x0) || decide (rd tb (c0 ||| c) = some y)) = true := q
      rw [Bool.or_eq_true] at q3
      exact q3.imp of_decide_eq_true of_decide_eq_true
    rcases q2 with q2 | q2
    · obtain ⟨m, h1, h2⟩ := fold_e A r (c0 ||| c) x0 q2 fun d hd => h d (List.mem_cons_of_mem _ hd)
      exact ⟨m, h1, h2.imp id fun ⟨d, hd, e⟩ => ⟨d, List.mem_cons_of_mem _ hd, e⟩⟩
    · obtain ⟨m, h1, h2⟩ := fold_e A r (c0 ||| c) y q2 fun d hd => h d (List.mem_cons_of_mem _ hd)
      refine ⟨m, h1, .inr ?_⟩
      rcases h2 with e | ⟨d, hd, e⟩
      · exact ⟨c, List.mem_cons_self, by rw [e]; exact hy⟩
      · exact ⟨d, List.mem_cons_of_mem _ hd, e⟩
theorem fold_g {tb : List (Option Int)} (A : AllLay .g tb) : ∀ (cs : List Nat) (c0 : Nat) (x0 : Int), rd tb c0 = some x0 → (∀ c ∈ cs, ∃ y, rd tb c = some y) →
    ∃ m, rd tb (cs.foldl (· ||| ·) c0) = some m ∧ (m = x0 ∨ ∃ c ∈ cs, rd tb c = some m) ∧ x0 ≤ m ∧ ∀ c ∈ cs, ∀ y, rd tb c = some y → y ≤ m
  | [], c0, x0, h0, _ => ⟨x0, h0, .inl rfl, Int.le_refl _, fun _ hc => nomatch hc⟩
  | c :: r, c0, x0, h0, h => by
    obtain ⟨y, hy⟩ := h c List.mem_cons_self
    have q2 : rd tb (c0 ||| c) = some (max x0 y) := of_decide_eq_true (A c0 c x0 y h0 hy)
    obtain ⟨m, h1, h2, h3, h4⟩ := fold_g A r (c0 ||| c) (max x0 y) q2 fun d hd => h d (List.mem_cons_of_mem _ hd)
    refine ⟨m, h1, ?_, by omega, fun d hd z hz => ?_⟩
    · rcases h2 with e | ⟨d, hd, e⟩
      · rcases max_or x0 y with q | q
        · exact .inl (by rw [e, q])
        · exact .inr ⟨c, List.mem_cons_self, by rw [e, q]; exact hy⟩
      · exact .inr ⟨d, List.mem_cons_of_mem _ hd, e⟩
    · rcases List.mem_cons.mp hd with rfl | hd
      · rw [hy] at hz
        cases hz
        omega
      · exact h4 d hd z hz
/-- the number that cuts read (0 if none) -/
def num (tb : List (Option Int)) (c : Nat) : Int := (rd tb c).getD 0
def Rdb (tb : List (Option Int)) (c : Nat) : Prop := (rd tb c).isSome = true
theorem rd_num {tb : List (Option Int)} {c : Nat} (h : Rdb tb c) : rd tb c = some (num tb c) := by
  unfold num
  unfold Rdb at h
  cases e : rd tb c with
  | none => rw [e] at h; cases h
  | some x => rfl
theorem rdb_of {tb : List (Option Int)} {c : Nat} {x : Int} (h : rd tb c = some x) : Rdb tb c := by
  unfold Rdb
  rw [h] <;> rfl
theorem rdb_lt {tb : List (Option Int)} {c : Nat} (h : Rdb tb c) : c < tb.length := by
  rcases Nat.lt_or_ge c tb.length with q | q
  · exact q
  · unfold Rdb rd at h
    rw [List.getD_eq_getElem?_getD, List.getElem?_eq_none q] at h
    cases h
theorem rd_get {tb : List (Option Int)} {c : Nat} (h : c < tb.length) : tb[c]? = some (rd tb c) := by
  unfold rd
  rw [List.getD_eq_getElem?_getD, List.getElem?_eq_getElem h]
  rfl
/-- where either is kept many read one of theirs -/
theorem many_e {tb : List (Option Int)} (A : AllLay .e tb) {cs : List Nat} (hn : cs ≠ []) (h : ∀ c ∈ cs, Rdb tb c) : ∃ m, rd tb (lor cs) = some m ∧ m ∈ cs.map (num tb) := by
  cases cs with
  | nil => exact absurd rfl hn
  | cons c r =>
    rw [lor_cons]
    obtain ⟨m, h1, h2⟩ := fold_e A r c (num tb c) (rd_num (h c List.mem_cons_self)) fun d hd => ⟨_, rd_num (h d (List.mem_cons_of_mem _ hd))⟩
    refine ⟨m, h1, ?_⟩
    rcases h2 with e | ⟨d, hd, e⟩
    · rw [e]
      exact List.mem_map.mpr ⟨c, List.mem_cons_self, rfl⟩
    · refine List.mem_map.mpr ⟨d, List.mem_cons_of_mem _ hd, ?_⟩
      unfold num
      rw [e] <;> rfl
/-- where greater is kept many read the greatest of theirs -/
theorem many_g {tb : List (Option Int)} (A : AllLay .g tb) {cs : List Nat} (hn : cs ≠ []) (h : ∀ c ∈ cs, Rdb tb c) {m : Int} (hm : m ∈ cs.map (num tb)) (hle : ∀ y ∈ cs.map (num tb), y ≤ m) : rd tb (lor cs) = some m := by
  cases cs with
  | nil => exact absurd rfl hn
  | cons c r =>
    rw [lor_cons]
    obtain ⟨k, h1, h2, h3, h4⟩ := fold_g A r c (num tb c) (rd_num (h c List.mem_cons_self)) fun d hd => ⟨_, rd_num (h d (List.mem_cons_of_mem _ hd))⟩
    have hk : k ∈ (c :: r).map (num tb) := by
      rcases h2 with e | ⟨d, hd, e⟩
      · rw [e]
        exact List.mem_map.mpr ⟨c, List.mem_cons_self, rfl⟩
      · refine List.mem_map.mpr ⟨d, List.mem_cons_of_mem _ hd, ?_⟩
        unfold num
        rw [e] <;> rfl
    have h5 : m ≤ k := by
      obtain ⟨d, hd, e⟩ := List.mem_map.mp hm
      rcases List.mem_cons.mp hd with rfl | hd
      · omega
      · rw [← e]
        exact h4 d hd _ (rd_num (h d (List.mem_cons_of_mem _ hd)))
    have h6 := hle k hk
    rw [h1, show k = m by omega]
/-- where honest is kept two of them read one of theirs or nothing -/
theorem two_h {tb : List (Option Int)} (A : AllLay .h tb) {cs : List Nat} (hn : cs ≠ []) (h : ∀ c ∈ cs, Rdb tb c) : rd tb (lor (cs.take 2)) = none ∨ ∃ m, rd tb (lor (cs.take 2)) = some m ∧ m ∈ (cs.map (num tb)).take 2 := by
  match cs, hn, h with
  | [a], _, h =>
    right
    refine ⟨num tb a, ?_, List.mem_cons_self⟩
    show rd tb (0 ||| a) = _
    rw [Nat.zero_or]
    exact rd_num (h a List.mem_cons_self)
  | a :: b :: r, _, h =>
    have q : lays .h (num tb a) (num tb b) (rd tb (a ||| b)) = true := A a b _ _ (rd_num (h a List.mem_cons_self)) (rd_num (h b (List.mem_cons_of_mem _ List.mem_cons_self)))
    have e : lor ((a :: b :: r).take 2) = a ||| b := by
      show (0 ||| a) ||| b = _
      rw [Nat.zero_or]
    rw [e]
    have q3 : (decide (rd tb (a ||| b) = none) || (decide (rd tb (a ||| b) = some (num tb a)) || decide (rd tb (a ||| b) = some (num tb b)))) = true := q
    rw [Bool.or_eq_true, Bool.or_eq_true] at q3
    rcases q3 with q3 | q3 | q3
    · exact .inl (of_decide_eq_true q3)
    · exact .inr ⟨_, of_decide_eq_true q3, List.mem_cons_self⟩
    · exact .inr ⟨_, of_decide_eq_true q3, List.mem_cons_of_mem _ List.mem_cons_self⟩
/-- the cuts that read a number, rising -/
def rds (tb : List (Option Int)) : List Nat := (List.range tb.length).filter fun c => (rd tb c).isSome
theorem mem_rds {tb : List (Option Int)} {c : Nat} : c ∈ rds tb ↔ Rdb tb c := by
  unfold rds
  rw [List.mem_filter, List.mem_range]
  exact ⟨fun h => h.2, fun h => ⟨rdb_lt h, h⟩⟩
theorem rds_len (tb : List (Option Int)) : (rds tb).length ≤ tb.length := by
  unfold rds
  have h := List.length_filter_le (fun c => (rd tb c).isSome) (List.range tb.length)
  rw [List.length_range] at h
  exact h
end Nl

/-! The law of many laid in any order: the text by places, rules of my own, the plain mathematics, the promises. -/
namespace Nl
open PySem L2

/-! ### the text by places -/
def top (i : Nat) : Stmt := PySem.Challenge.pw_notchledger_k63_whole_many_laid_in_any_o.main.body.getD i (.Pass ⟨0, 0, 0, 0⟩)
abbrev sIsInt : Stmt := top 1
abbrev sIsCuts : Stmt := top 2
abbrev sAllCuts : Stmt := top 3
abbrev sTogether : Stmt := top 4
abbrev sLaid : Stmt := top 5
abbrev sSpotsIn : Stmt := top 13
abbrev sMade : Stmt := top 14
abbrev sReading : Stmt := top 15
abbrev sReadable : Stmt := top 16
abbrev sLays : Stmt := top 22
abbrev sLaying : Stmt := top 23
abbrev sReadsNumber : Stmt := top 24
abbrev sRightNot : Stmt := top 25
abbrev sStream : Stmt := top 27
abbrev sTake : Stmt := top 28
abbrev sWorths : Stmt := top 29
abbrev sTable : Stmt := top 30
abbrev sDrawn : Stmt := top 31
abbrev sWordsRight : Stmt := top 32
abbrev sListRight : Stmt := top 33
abbrev sLaw : Stmt := top 34

/-! ### heaps -/
/-- all that stood stands, but for the object at a -/
def Bar (a : Addr) (H H' : Hp) : Prop := ∀ b o, b ≠ a → H b = some o → H' b = some o
theorem Bar.refl (a : Addr) (H : Hp) : Bar a H H := fun _ _ _ h => h
theorem Bar.trans {a : Addr} {H H1 H2 : Hp} (x : Bar a H H1) (y : Bar a H1 H2) : Bar a H H2 := fun b o n h => y b o n (x b o n h)
theorem Bar.of {a : Addr} {H H' : Hp} (x : Same H H') : Bar a H H' := fun b o _ h => x b o h
theorem Bar.upd {a : Addr} {H : Hp} {o : HO} : Bar a H (upd H a o) := fun b u n h => by
  rw [upd_ne n]
  exact h
theorem Bar.free {a : Addr} {H H' : Hp} (x : Bar a H H') {b : Addr} (n : b ≠ a) (h : H' b = Option.none) : H b = Option.none := by
  cases q : H b with
  | none => rfl
  | some o =>
    rw [x b o n q] at h
    cases h
theorem same_new {H : Hp} {p : Addr} {o : HO} (h : H p = none) : Same H (upd H p o) := fun b u q => by
  rw [upd_ne (ne_of_none q h)]
  exact q
/-- a thing made since H is changed -/
theorem Same.mut {H H' : Hp} {p : Addr} {o : HO} (x : Same H H') (h : H p = none) : Same H (upd H' p o) := fun b u q => by
  rw [upd_ne (ne_of_none q h)]
  exact x _ _ q
theorem Same.tup {K : PySem.W.Frag} {H H' : Hp} {a : Addr} {xs : List V} (e : Same H H') (h : SqT K H a xs) : SqT K H' a xs := by
  rcases h with (h | ⟨o, h⟩) | h
  · exact .inl (.inl (e _ _ h))
  · exact .inl (.inr ⟨o, e _ _ h⟩)
  · exact .inr h
theorem SqT.of {K : PySem.W.Frag} {H : Hp} {a : Addr} {xs : List V} (h : H a = some (.tup xs)) : SqT K H a xs := .inl (.inl h)

/-! ### rules of my own -/
section
variable {X : Cx}
/-- range(n) as a value -/
theorem cr_range1 : CallR X (.type "range") (fun vs H Q => ∃ j, vs = [V.int j] ∧ ∀ p, H p = none → Q (.ref p) (upd H p (.rng 0 j))) := by
  intro pins s σ H vs us Q I r h
  obtain ⟨j, rfl, q⟩ := h
  obtain ⟨u1, rfl, ri⟩ := vals1 r
  obtain ⟨t, rfl⟩ := ri
  refine call_range_1 ⟨.ref s.heap.objs.size, upd H s.heap.objs.size (.rng 0 j), I.laid (t' := s.toks + 1 + 1) (fun b o e => Heap.get?_push_of_some _ e) (Nat.le_refl _) ?_, rfl, q _ (I.hok.fresh (Nat.le_refl _))⟩
  exact ⟨_, _, _, Heap.get?_push_size _ rfl⟩
theorem vals_of_items {n : Nat} : ∀ {l : List Value} {k : Nat}, l.length = n → (∀ (i : Nat) (v : Value), l[i]? = some v → ∃ t, v = Value.int ((k : Int) + (i : Int)) t) → Vals ((List.range' k n).map fun (i : Nat) => V.int (i : Int)) l := by
  induction n with
  | zero =>
    intro l k hl _
    have e : l = [] := List.eq_nil_of_length_eq_zero hl
    subst e
    exact .nil
  | succ n ih =>
    intro l k hl h
    cases l with
    | nil => cases hl
    | cons v r =>
      rw [List.range'_succ, List.map_cons]
      refine .cons ?_ ?_
      · obtain ⟨t, e⟩ := h 0 v rfl
        exact ⟨t, by rw [e]; simp⟩
      · refine ih (by simpa using hl) fun i w hw => ?_
        obtain ⟨t, e⟩ := h (i + 1) w (by simpa using hw)
        refine ⟨t, ?_⟩
        rw [e]
        congr 1
        omega
/-- list(range(n)) of a range that stands -/
theorem cr_list_rng (hc : X.calm = true) : CallR X (.type "list") (fun vs H Q => ∃ (p : Addr) (n : Nat), vs = [V.ref p] ∧ H p = some (.rng 0 (n : Int)) ∧ n ≤ 100000 ∧ ∀ l, H l = none → Q (.ref l) (upd H l (.lst ((List.range n).map fun (i : Nat) => V.int (i : Int))))) := by
  intro pins s σ H vs us Q I r h
  obtain ⟨p, n, rfl, hp, hn, q⟩ := h
  obtain ⟨u1, rfl, ri⟩ := vals1 r
  cases ri
  obtain ⟨t, u, v, e⟩ := I.hok p _ hp
  refine call_list_range (n := n) (I.ok.hd hc) e (small_one (by omega) (by omega) (by omega) (by omega)) ?_ (by omega) fun h' tk acc c hk hS hacc => ?_
  · rw [rangeSize_one]
    split <;> omega
  · have hv : Vals ((List.range n).map fun (i : Nat) => V.int (i : Int)) acc.toList := by
      rw [List.range_eq_range']
      refine vals_of_items (by simpa using hacc.1) fun i w hw => ?_
      obtain ⟨t2, e2⟩ := hacc.2 i w (by simpa using hw)
      exact ⟨t2, by rw [e2]; congr 1; omega⟩
    have z : n ≤ sizeLine := Nat.le_trans hn (by decide)
    refine ⟨.ref s.heap.objs.size, _, I.laid (t' := tk) (o := .lst ((List.range n).map fun (i : Nat) => V.int (i : Int))) hk (Nat.le_refl _) ?_, rfl, q _ (I.hok.fresh (Nat.le_refl _))⟩
    exact ⟨by rw [List.length_map, List.length_range]; exact z, acc.toList, c, hv, by simpa using hS⟩
/-- xs.count(y), y and the items flat -/
theorem mt_countV : MtR X "list.count" (fun x xs H Q => ∃ (p : Addr) (ys : List V) (y : V), x = .ref p ∧ xs = [y] ∧ SqL X.K H p ys ∧ flatV y = true ∧ ys.all flatV = true ∧ Q (.int (ys.countP (fun z => eqV z y) : Nat)) H) := by
  intro pins s σ H x xs v us Q I rx rxs h
  obtain ⟨p, ys, y, rfl, rfl, hs, fy, fs, q⟩ := h
  cases rx
  obtain ⟨u, rfl, ru⟩ := rxs.one
  obtain ⟨its, rv, ⟨⟨cls, dd, data, sl⟩, n, ho, hc, hdn, hd⟩, hlen⟩ := I.list hs
  simp only at hc hd
  subst hc hd
  refine call_meets PySem.F.slot_list_count ⟨_, ho, rfl⟩ PySem.F.entry_list_count (PySem.F.args_list_count_2 _ _)
    (SeqAt.list_countAt p its.toArray n dd sl u (eqU y)) ⟨ho, fun w hw => mem_eqAt ru fy rv fs w (by simpa using hw), ?_⟩
  have ec : ∀ {zs : List V} {ws : List Value}, Vals zs ws → zs.all flatV = true → List.countP (eqU y) ws = List.countP (fun z => eqV z y) zs := by
    intro zs ws r
    induction r with
    | nil => intro _; rfl
    | cons a b ih =>
      intro f
      rw [List.all_cons, Bool.and_eq_true] at f
      rw [List.countP_cons, List.countP_cons, ih f.2, eqU_of a f.1]
  refine ⟨.int (ys.countP (fun z => eqV z y) : Nat), H, I.tok _, ⟨s.toks, ?_⟩, q⟩
  show Value.int ((its.toArray.toList.countP (eqU y) : Nat) : Int) s.toks = Value.int ((ys.countP (fun z => eqV z y) : Nat) : Int) s.toks
  rw [show its.toArray.toList = its by simp, ec rv fs]
end
end Nl

/-! Promises; small helpers. -/
namespace Nl
open PySem L2

/-! ### data -/
def vO : Option Int → V
  | none => .non
  | some i => .int i
def How.txt : How → Str
  | .g => "greater"
  | .e => "either"
  | .h => "honest"
def nums (cs : List Nat) : List V := cs.map fun (c : Nat) => V.int (c : Int)
/-- a writing of n spots stands at w, its table tb -/
def Wr (K : PySem.W.Frag) (H : Hp) (w : Addr) (n : Nat) (tb : List (Option Int)) : Prop :=
  ∃ (k : Int) (t : Addr), SqT K H w [.int (n : Int), .int k, .ref t] ∧ SqT K H t (tb.map vO) ∧ tb.length = 2 ^ n ∧ 1 ≤ n ∧ n ≤ 8
theorem Wr.same {K : PySem.W.Frag} {H H' : Hp} {w : Addr} {n : Nat} {tb : List (Option Int)} (h : Wr K H w n tb) (e : Same H H') : Wr K H' w n tb := by
  obtain ⟨k, t, h1, h2, h3⟩ := h
  exact ⟨k, t, Same.tup e h1, Same.tup e h2, h3⟩
/-- what laying told stands at p: so, or a paper by which the word isn't kept -/
def Found (H : Hp) (p : Addr) (w : How) (tb : List (Option Int)) : Prop :=
  (H p = some (.tup [.str "so"]) ∧ AllLay w tb) ∨ ∃ a b : Nat, H p = some (.tup [.str "not", .int (a : Int), .int (b : Int)]) ∧ NotAt w tb a b
theorem Found.same {H H' : Hp} {p : Addr} {w : How} {tb : List (Option Int)} (h : Found H p w tb) (e : Same H H') : Found H' p w tb := by
  rcases h with ⟨h1, h2⟩ | ⟨a, b, h1, h2⟩
  · exact .inl ⟨e _ _ h1, h2⟩
  · exact .inr ⟨a, b, e _ _ h1, h2⟩
/-- a stream: a list of two nums, whatever they are -/
def Strm (H : Hp) (s : Addr) : Prop := ∃ c m : Int, H s = some (.lst [.int c, .int m])

/-! ### small things -/
theorem iteY {c : Bool} {A B : Prop} (hc : c = true) (h : A) : if c = true then A else B := by
  rw [if_pos hc]
  exact h
theorem iteN {c : Bool} {A B : Prop} (hc : c = false) (h : B) : if c = true then A else B := by
  subst hc
  rw [if_neg Bool.false_ne_true]
  exact h
theorem blT {Q : VK} {H : Hp} {c : Bool} (hc : c = true) (q : Q (.bl true) H) : Q (.bl c) H := by
  subst hc
  exact q
theorem blF {Q : VK} {H : Hp} {c : Bool} (hc : c = false) (q : Q (.bl false) H) : Q (.bl c) H := by
  subst hc
  exact q
theorem vIs {Q : VK} {H : Hp} {x y : V} (hc : x = y) (q : Q y H) : Q x H := by
  subst hc
  exact q
theorem shl1 (n : Nat) : (1 : Int) * 2 ^ ((n : Int)).toNat = ((2 ^ n : Nat) : Int) := by
  rw [Int.toNat_natCast, Int.one_mul, Int.natCast_pow]
  rfl
theorem pow8 {n : Nat} (h : n ≤ 8) : 2 ^ n ≤ 256 := by
  have h1 : (2 : Nat) ^ n ≤ 2 ^ 8 := Nat.pow_le_pow_right (by decide) h
  exact h1
theorem cpow8 {n : Nat} (h : n ≤ 8) : CPow 1 (n : Int) := ⟨by omega, by omega, by decide⟩
theorem getO {tb : List (Option Int)} {c : Nat} (h : c < tb.length) : (tb.map vO)[c]? = some (vO (rd tb c)) := by
  rw [List.getElem?_map, rd_get h] <;> rfl
theorem nums_get {cs : List Nat} {i : Nat} {x : V} (h : (nums cs)[i]? = some x) : ∃ c, cs[i]? = some c ∧ x = .int (c : Int) := by
  unfold nums at h
  rw [List.getElem?_map] at h
  cases e : cs[i]? with
  | none => rw [e] at h; cases h
  | some c =>
    rw [e] at h
    exact ⟨c, rfl, (Option.some.inj h).symm⟩
theorem nums_len (cs : List Nat) : (nums cs).length = cs.length := List.length_map _
theorem map_int {l : List Int} {i : Nat} {x : V} (h : (l.map V.int)[i]? = some x) : ∃ z, l[i]? = some z ∧ x = .int z := by
  rw [List.getElem?_map] at h
  cases e : l[i]? with
  | none => rw [e] at h; cases h
  | some c =>
    rw [e] at h
    exact ⟨c, rfl, (Option.some.inj h).symm⟩

/-! ### the promises -/
def spIsInt : Sp := fun vs H Q _ => ∃ i a b : Int, vs = [.int i, .int a, .int b] ∧ a ≤ i ∧ i ≤ b ∧ Q (.bl true) H
def spIsCuts : Sp := fun vs H Q _ => ∃ n c : Nat, vs = [.int (n : Int), .int (c : Int)] ∧ n ≤ 8 ∧ c < 2 ^ n ∧ Q (.bl true) H
def spAllCuts : Sp := fun vs H Q _ => ∃ n : Nat, vs = [.int (n : Int)] ∧ n ≤ 8 ∧ ∀ p H', Same H H' → H p = none → H' p = some (.lst (nums (List.range (2 ^ n)))) → Q (.ref p) H'
def spTogether : Sp := fun vs H Q _ => ∃ a b : Nat, vs = [.int (a : Int), .int (b : Int)] ∧ Q (.int ((a ||| b : Nat) : Int)) H
def spLaid (K : PySem.W.Frag) : Sp := fun vs H Q _ => ∃ (a : Addr) (cs : List Nat), vs = [.ref a] ∧ SqL K H a (nums cs) ∧ Q (.int ((lor cs : Nat) : Int)) H
def spSpotsIn (K : PySem.W.Frag) : Sp := fun vs H Q _ => ∃ (w : Addr) (n : Nat) (tb : List (Option Int)), vs = [.ref w] ∧ Wr K H w n tb ∧ Q (.int (n : Int)) H
def spMade : Sp := fun vs H Q _ => ∃ (n : Nat) (k : Int) (t : Addr) (tb : List (Option Int)), vs = [.int (n : Int), .int k, .ref t] ∧ H t = some (.tup (tb.map vO)) ∧ tb.length = 2 ^ n ∧ 1 ≤ n ∧ n ≤ 8 ∧ 2 ≤ k ∧ k ≤ 100 ∧
  (∀ x, some x ∈ tb → 0 ≤ x ∧ x < k) ∧ ∀ p H', Same H H' → H p = none → H' p = some (.tup [.int (n : Int), .int k, .ref t]) → Q (.ref p) H'
def spReading (K : PySem.W.Frag) : Sp := fun vs H Q _ => ∃ (w : Addr) (n : Nat) (tb : List (Option Int)) (c : Nat), vs = [.ref w, .int (c : Int)] ∧ Wr K H w n tb ∧ c < 2 ^ n ∧ Q (vO (rd tb c)) H
def spReadable (K : PySem.W.Frag) : Sp := fun vs H Q _ => ∃ (w : Addr) (n : Nat) (tb : List (Option Int)), vs = [.ref w] ∧ Wr K H w n tb ∧ ∀ p H', Same H H' → H p = none → H' p = some (.lst (nums (rds tb))) → Q (.ref p) H'
def spLays (K : PySem.W.Frag) : Sp := fun vs H Q _ => ∃ (w : Addr) (n : Nat) (tb : List (Option Int)) (how : How) (a b : Nat) (x y : Int), vs = [.ref w, .str how.txt, .int (a : Int), .int (b : Int)] ∧ Wr K H w n tb ∧
  rd tb a = some x ∧ rd tb b = some y ∧ ∀ H', Same H H' → Q (.bl (lays how x y (rd tb (a ||| b)))) H'
def spLaying (K : PySem.W.Frag) : Sp := fun vs H Q _ => ∃ (w : Addr) (n : Nat) (tb : List (Option Int)) (how : How), vs = [.ref w, .str how.txt] ∧ Wr K H w n tb ∧ ∀ p H', Same H H' → H p = none → Found H' p how tb → Q (.ref p) H'
def spReadsNumber (K : PySem.W.Frag) : Sp := fun vs H Q _ => ∃ (w : Addr) (n : Nat) (tb : List (Option Int)) (c : Nat), vs = [.ref w, .int (c : Int)] ∧ Wr K H w n tb ∧ Rdb tb c ∧ Q (.bl true) H
def spRightNot (K : PySem.W.Frag) : Sp := fun vs H Q _ => ∃ (w : Addr) (n : Nat) (tb : List (Option Int)) (how : How) (p : Addr) (a b : Nat), vs = [.ref w, .str how.txt, .ref p] ∧ Wr K H w n tb ∧
  H p = some (.tup [.str "not", .int (a : Int), .int (b : Int)]) ∧ NotAt how tb a b ∧ ∀ H', Same H H' → Q (.bl true) H'
def spStream (K : PySem.W.Frag) : Sp := fun vs H Q _ => ∃ (a : Addr) (ns : List Int) (k : Int), vs = [.ref a, .int k] ∧ SqL K H a (ns.map V.int) ∧ ns.length ≤ 63 ∧ 0 ≤ k ∧ k ≤ 100 ∧ ∀ p H', Same H H' → H p = none → Strm H' p → Q (.ref p) H'
def spTake : Sp := fun vs H Q _ => ∃ (s : Addr) (most : Int), vs = [.ref s, .int most] ∧ Strm H s ∧ 1 ≤ most ∧ most ≤ 1000000 ∧ ∀ r c m : Int, 0 ≤ r → r < most → Q (.int r) (upd H s (.lst [.int c, .int m]))
def spWorths : Sp := fun vs H Q _ => ∃ (s : Addr) (n : Nat) (k : Int), vs = [.ref s, .int (n : Int), .int k] ∧ Strm H s ∧ n ≤ 8 ∧ 1 ≤ k ∧ k ≤ 100 ∧
  ∀ (p : Addr) (ws : List Int) (H' : Hp), Bar s H H' → Strm H' s → H p = none → H' p = some (.lst (ws.map V.int)) → ws.length = n + 1 → (∀ x ∈ ws, 0 ≤ x ∧ x < k) → Q (.ref p) H'
def spTable : Sp := fun vs H Q _ => ∃ (s : Addr) (n : Nat) (k : Int), vs = [.ref s, .int (n : Int), .int k] ∧ Strm H s ∧ 1 ≤ n ∧ n ≤ 8 ∧ 2 ≤ k ∧ k ≤ 100 ∧
  ∀ (p : Addr) (tb : List (Option Int)) (H' : Hp), Bar s H H' → H p = none → H' p = some (.tup (tb.map vO)) → tb.length = 2 ^ n → (∀ x, some x ∈ tb → 0 ≤ x ∧ x < k) → Q (.ref p) H'
def spDrawn : Sp := fun vs H Q _ => ∃ s : Addr, vs = [.ref s] ∧ Strm H s ∧
  ∀ (p t : Addr) (n : Nat) (k : Int) (tb : List (Option Int)) (H' : Hp), Bar s H H' → H' p = some (.tup [.int (n : Int), .int k, .ref t]) → H' t = some (.tup (tb.map vO)) → tb.length = 2 ^ n → 1 ≤ n → n ≤ 8 → 2 ≤ k → k ≤ 100 →
    (∀ x, some x ∈ tb → 0 ≤ x ∧ x < k) → Q (.ref p) H'
def spWordsRight (K : PySem.W.Frag) : Sp := fun vs H Q _ => ∃ (w : Addr) (n : Nat) (tb : List (Option Int)) (l p0 p1 p2 : Addr), vs = [.ref w, .ref l] ∧ Wr K H w n tb ∧ H l = some (.lst [.ref p0, .ref p1, .ref p2]) ∧
  Found H p0 .g tb ∧ Found H p1 .e tb ∧ Found H p2 .h tb ∧ ∀ H', Same H H' → Q (.bl true) H'
def spListRight (K : PySem.W.Frag) : Sp := fun vs H Q _ => ∃ (w : Addr) (n : Nat) (tb : List (Option Int)) (l p0 p1 p2 sm : Addr) (cs : List Nat), vs = [.ref w, .ref l, .ref sm] ∧ Wr K H w n tb ∧ H l = some (.lst [.ref p0, .ref p1, .ref p2]) ∧
  Found H p0 .g tb ∧ Found H p1 .e tb ∧ Found H p2 .h tb ∧ H sm = some (.lst (nums cs)) ∧ cs ≠ [] ∧ cs.length ≤ 1000 ∧ (∀ c ∈ cs, Rdb tb c) ∧ ∀ H', Same H H' → Q (.bl true) H'
def spLaw (K : PySem.W.Frag) : Sp := fun vs H Q _ => ∃ (a : Addr) (ns : List Int), vs = [.ref a] ∧ SqL K H a (ns.map V.int) ∧ ns.length ≤ 63 ∧ ∀ H', Q (.bl true) H'

/-! ### what the module's names hold -/
structure Txt (mg : Str → Option Value) : Prop where
  isi : mg "isinstance" = none
  int : mg "int" = none
  bool : mg "bool" = none
  list : mg "list" = none
  range : mg "range" = none
  tuple : mg "tuple" = none
  len : mg "len" = none
  max : mg "max" = none
  min : mg "min" = none
  abs : mg "abs" = none
  zip : mg "zip" = none
  spots : ∃ t, mg "MOST_SPOTS" = some (.int 8 t)
  few : ∃ t, mg "FEWEST_NUMBERS" = some (.int 2 t)
  most : ∃ t, mg "MOST_NUMBERS" = some (.int 100 t)
  gre : ∃ t, mg "GREATER" = some (.str "greater" t)
  eit : ∃ t, mg "EITHER" = some (.str "either" t)
  so : ∃ t, mg "SO" = some (.str "so" t)
  not : ∃ t, mg "NOT" = some (.str "not" t)
/-- a def of the text with what its callers need -/
structure Def (K : PySem.W.Frag) (mg : Str → Option Value) (x : Str) (st : Stmt) (ps : List Str) (f : Addr) (fd : FuncData) : Prop where
  fn : Fun K x x st f fd
  bd : Binds K fd ps []
  mg : mg x = some (.ref f)
end Nl

/-! The small defs of cuts and writings. -/
namespace Nl
open PySem L2
section
variable {P : Program} {w : World} {K : PySem.W.Frag} {mg : Str → Option Value} {base : Heap}

theorem or_nat (a b : Nat) : Builtin.bitOr (a : Int) (b : Int) = ((a ||| b : Nat) : Int) := by
  rw [bitOr_nn (by omega) (by omega), Int.toNat_natCast, Int.toNat_natCast]
theorem scIsInt : FnScope ["thing", "least", "most"] ["thing", "least", "most"] (defScope sIsInt) := ⟨rfl, rfl, rfl, by decide +kernel, rfl, by decide +kernel, by decide +kernel⟩
theorem ok_isInt {f : Addr} {fd : FuncData} (F : Fun K "is_int" "is_int" sIsInt f fd) (T : Txt mg) : FnOk P w K mg base CX0 1 f fd ["thing", "least", "most"] spIsInt := by
  refine F.ok scIsInt (fun vs H Q E h => ?_) (fun cdv A outer s H vs Q E hr h => ?_)
  · obtain ⟨i, a, b, rfl, _⟩ := h
    rfl
  · obtain ⟨i, a, b, rfl, h1, h2, q⟩ := h
    refine ⟨_, pss_one (ps_ret (pe_and (pe_callB call_isi (by rfl) T.isi (by decide +kernel) (pa_cons (pv 0) (pa_cons (pe_bltn (v := .ty "int") (by rfl) T.int (by decide +kernel) rfl) pa_nil)))
      (pe_and (pe_not (pe_callB call_isi (by rfl) T.isi (by decide +kernel) (pa_cons (pv 0) (pa_cons (pe_bltn (v := .ty "bool") (by rfl) T.bool (by decide +kernel) rfl) pa_nil))))
        (pe_one (pe_chain op_le op_le (pv 1) (pv 0) (pv 2)))))), ?_⟩
    refine ⟨_, rfl, .int i, .ty "int", .type "int", .type "int", true, rfl, .ty "int", .base (.int i), kit_ty (by decide +kernel), true, rfl, iteY rfl ?_⟩
    refine ⟨_, rfl, .int i, .ty "bool", .type "int", .type "bool", false, rfl, .ty "bool", .base (.int i), kit_ty (by decide +kernel), false, rfl, _, rfl, iteY rfl ?_⟩
    refine ⟨_, rfl, _, rfl, _, _, rfl, rfl, _, rfl, iteY (decide_eq_true h1) ⟨_, rfl, _, _, rfl, rfl, ?_⟩⟩
    exact blT (decide_eq_true h2) q

theorem scIsCuts : FnScope ["n", "thing"] ["n", "thing"] (defScope sIsCuts) := ⟨rfl, rfl, rfl, by decide +kernel, rfl, by decide +kernel, by decide +kernel⟩
theorem ok_isCuts {f fI : Addr} {fd fdI : FuncData} (F : Fun K "is_cuts" "is_cuts" sIsCuts f fd) (T : Txt mg) (DI : Def K mg "is_int" sIsInt ["thing", "least", "most"] fI fdI) : FnOk P w K mg base CX0 2 f fd ["n", "thing"] spIsCuts := by
  have GI : FnOk P w K mg base CX0 1 fI fdI ["thing", "least", "most"] spIsInt := ok_isInt DI.fn T
  refine F.ok scIsCuts (fun vs H Q E h => ?_) (fun cdv A outer s H vs Q E hr h => ?_)
  · obtain ⟨n, c, rfl, _⟩ := h
    rfl
  · obtain ⟨n, c, rfl, h1, h2, q⟩ := h
    refine ⟨_, pss_one (ps_ret (pe_call GI hr (by rfl) DI.mg DI.fn.kp DI.bd .nil pass0 (pa_cons (pv 1) (pa_cons pe_int (pa_cons (pe_op op_sub (pe_op op_shl pe_int (pv 0)) pe_int) pa_nil))))), ?_⟩
    refine ⟨_, rfl, _, rfl, 1, (n : Int), rfl, rfl, cpow8 h1, _, _, rfl, rfl, (c : Int), 0, _, rfl, by omega, ?_, q⟩
    rw [shl1]
    omega

theorem scAllCuts : FnScope ["n"] ["n"] (defScope sAllCuts) := ⟨rfl, rfl, rfl, by decide +kernel, rfl, by decide +kernel, by decide +kernel⟩
theorem ok_allCuts {f : Addr} {fd : FuncData} (F : Fun K "all_cuts" "all_cuts" sAllCuts f fd) (T : Txt mg) : FnOk P w K mg base CX0 1 f fd ["n"] spAllCuts := by
  refine F.ok scAllCuts (fun vs H Q E h => ?_) (fun cdv A outer s H vs Q E hr h => ?_)
  · obtain ⟨n, rfl, _⟩ := h
    rfl
  · obtain ⟨n, rfl, h1, q⟩ := h
    refine ⟨_, pss_one (ps_ret (pe_callTy (cr_list_rng rfl) (by rfl) T.list (by decide +kernel) (pa_cons (pe_callTy cr_range1 (by rfl) T.range (by decide +kernel) (pa_cons (pe_op op_shl pe_int (pv 0)) pa_nil)) pa_nil))), ?_⟩
    refine ⟨_, rfl, 1, (n : Int), rfl, rfl, cpow8 h1, _, rfl, fun p np => ⟨p, 2 ^ n, rfl, by rw [upd_same, shl1], ?_, fun l nl => ?_⟩⟩
    · have := pow8 h1
      omega
    · have s1 : Same H (upd H p (.rng 0 (1 * 2 ^ ((n : Int)).toNat))) := same_new np
      exact q l _ (s1.trans (same_new nl)) (s1.free nl) upd_same

theorem scTogether : FnScope ["one", "other"] ["one", "other"] (defScope sTogether) := ⟨rfl, rfl, rfl, by decide +kernel, rfl, by decide +kernel, by decide +kernel⟩
theorem ok_together {f : Addr} {fd : FuncData} (F : Fun K "together" "together" sTogether f fd) : FnOk P w K mg base CX0 1 f fd ["one", "other"] spTogether := by
  refine F.ok scTogether (fun vs H Q E h => ?_) (fun cdv A outer s H vs Q E hr h => ?_)
  · obtain ⟨a, b, rfl, _⟩ := h
    rfl
  · obtain ⟨a, b, rfl, q⟩ := h
    refine ⟨_, pss_one (ps_ret (pe_op op_or (pv 0) (pv 1))), ?_⟩
    refine ⟨_, rfl, _, rfl, _, _, rfl, rfl, ?_⟩
    exact vIs (congrArg V.int (or_nat a b)) q

theorem scLaid : FnScope ["some", "found", "cuts"] ["some"] (defScope sLaid) := ⟨rfl, rfl, rfl, by decide +kernel, rfl, by decide +kernel, by decide +kernel⟩
theorem lor_take {cs : List Nat} {i c : Nat} (h : cs[i]? = some c) : lor (cs.take (i + 1)) = lor (cs.take i) ||| c := by
  rw [List.take_add_one, h]
  unfold lor
  rw [List.foldl_append] <;> rfl
theorem ok_laid {f : Addr} {fd : FuncData} (F : Fun K "laid" "laid" sLaid f fd) : FnOk P w K mg base CX0 1 f fd ["some"] (spLaid K) := by
  refine F.ok scLaid (fun vs H Q E h => ?_) (fun cdv A outer s H vs Q E hr h => ?_)
  · obtain ⟨a, cs, rfl, _⟩ := h
    rfl
  · obtain ⟨a, cs, rfl, hS, q⟩ := h
    refine ⟨_, pss_cons (ps_set (i := 1) scLaid.nd rfl (.inl rfl) pe_int)
      (pss_cons (ps_for PassesOwn.never rfl (pi_list (pv 0)) (pg_name (i := 2) scLaid.nd rfl (.inl rfl)) (pss_one (ps_set (i := 1) scLaid.nd rfl (.inl rfl) (pe_op op_or (pv 1) (pv 2)))))
      (pss_one (ps_ret (pv 1)))), ?_⟩
    refine ⟨.ref a, rfl, a, rfl, ⟨_, hS⟩, for_list (K := K) (a := a) (xs := nums cs) (fun i σ H' => ∃ v2, σ = [some (.ref a), some (.int ((lor (cs.take i) : Nat) : Int)), v2] ∧ H' = H) ⟨none, rfl, rfl⟩ (fun i σ H' _ ⟨_, _, e⟩ => by rw [e]; exact hS) ?_ ?_⟩
    · rintro i x σ H' hx ⟨v2, rfl, rfl⟩
      obtain ⟨c, hc, rfl⟩ := nums_get hx
      refine ⟨_, rfl, _, rfl, _, _, rfl, rfl, some (.int (c : Int)), ?_, rfl⟩
      rw [lor_take hc, ← or_nat]
      rfl
    · rintro σ H' ⟨v2, rfl, rfl⟩
      rw [nums_len, List.take_length]
      exact ⟨_, rfl, q⟩

theorem scSpotsIn : FnScope ["writing"] ["writing"] (defScope sSpotsIn) := ⟨rfl, rfl, rfl, by decide +kernel, rfl, by decide +kernel, by decide +kernel⟩
theorem ok_spotsIn {f : Addr} {fd : FuncData} (F : Fun K "spots_in" "spots_in" sSpotsIn f fd) : FnOk P w K mg base CX0 1 f fd ["writing"] (spSpotsIn K) := by
  refine F.ok scSpotsIn (fun vs H Q E h => ?_) (fun cdv A outer s H vs Q E hr h => ?_)
  · obtain ⟨a, n, tb, rfl, _⟩ := h
    rfl
  · obtain ⟨a, n, tb, rfl, ⟨k, t, h1, h2, h3, h4⟩, q⟩ := h
    refine ⟨_, pss_one (ps_ret (pe_ix ix_tup (pv 0) pe_int (fun _ _ => rfl))), ?_⟩
    exact ⟨_, rfl, a, _, 0, _, rfl, rfl, h1, atI_nat (j := 0) rfl, q⟩

theorem scReading : FnScope ["writing", "cuts"] ["writing", "cuts"] (defScope sReading) := ⟨rfl, rfl, rfl, by decide +kernel, rfl, by decide +kernel, by decide +kernel⟩
theorem ok_reading {f : Addr} {fd : FuncData} (F : Fun K "reading" "reading" sReading f fd) : FnOk P w K mg base CX0 1 f fd ["writing", "cuts"] (spReading K) := by
  refine F.ok scReading (fun vs H Q E h => ?_) (fun cdv A outer s H vs Q E hr h => ?_)
  · obtain ⟨a, n, tb, c, rfl, _⟩ := h
    rfl
  · obtain ⟨a, n, tb, c, rfl, ⟨k, t, h1, h2, h3, h4⟩, hc, q⟩ := h
    refine ⟨_, pss_one (ps_ret (pe_ix ix_tup (pe_ix ix_tup (pv 0) pe_int (fun _ _ => rfl)) (pv 1) (fun _ _ => rfl))), ?_⟩
    refine ⟨_, rfl, a, _, 2, _, rfl, rfl, h1, atI_nat (j := 2) rfl, _, rfl, t, _, (c : Int), _, rfl, rfl, h2, atI_nat (getO (by omega)), q⟩
end
end Nl

/-! made_writing, readable, lays, laying, reads_number, right_not. -/
namespace Nl
open PySem L2
section
variable {P : Program} {w : World} {K : PySem.W.Frag} {mg : Str → Option Value} {base : Heap}

theorem ix_tupK {X : Cx} {K : PySem.W.Frag} (h : X.K = K) : IxR X (rIxT K) := by
  subst h
  exact ix_tup
theorem ix_listK {X : Cx} {K : PySem.W.Frag} (h : X.K = K) : IxR X (rIxL K) := by
  subst h
  exact ix_list
theorem mem_get {tb : List (Option Int)} {i : Nat} {x : V} (h : (tb.map vO)[i]? = some x) : ∃ r, r ∈ tb ∧ x = vO r := by
  rw [List.getElem?_map] at h
  cases e : tb[i]? with
  | none => rw [e] at h; cases h
  | some r =>
    rw [e] at h
    exact ⟨r, List.mem_of_getElem? e, (Option.some.inj h).symm⟩
theorem scMade : FnScope ["n", "k", "table", "number"] ["n", "k", "table"] (defScope sMade) := ⟨rfl, rfl, rfl, by decide +kernel, rfl, by decide +kernel, by decide +kernel⟩
theorem ok_made {f fI : Addr} {fd fdI : FuncData} (F : Fun K "made_writing" "made_writing" sMade f fd) (T : Txt mg) (DI : Def K mg "is_int" sIsInt ["thing", "least", "most"] fI fdI) : FnOk P w K mg base CX0 2 f fd ["n", "k", "table"] spMade := by
  have GI : FnOk P w K mg base CX0 1 fI fdI ["thing", "least", "most"] spIsInt := ok_isInt DI.fn T
  obtain ⟨t1, m1⟩ := T.spots
  obtain ⟨t2, m2⟩ := T.few
  obtain ⟨t3, m3⟩ := T.most
  refine F.ok scMade (fun vs H Q E h => ?_) (fun cdv A outer s H vs Q E hr h => ?_)
  · obtain ⟨n, k, t, tb, rfl, _⟩ := h
    rfl
  · obtain ⟨n, k, t, tb, rfl, hT, hl, h1, h8, h2, h100, hx, q⟩ := h
    refine ⟨_, pss_cons (ps_if (PW.pt (pw_or
          (pt_not (pt_val (pe_call GI hr (by rfl) DI.mg DI.fn.kp DI.bd .nil pass0 (pa_cons (pv 0) (pa_cons pe_int (pa_cons (pe_glob (v := .int 8) (by rfl) m1 ⟨_, rfl⟩) pa_nil))))))
          (pw_or1 (pt_not (pt_val (pe_call GI hr (by rfl) DI.mg DI.fn.kp DI.bd .nil pass0 (pa_cons (pv 1) (pa_cons (pe_glob (v := .int 2) (by rfl) m2 ⟨_, rfl⟩) (pa_cons (pe_glob (v := .int 100) (by rfl) m3 ⟨_, rfl⟩) pa_nil))))))))) (pss_one ps_never) pss_nil)
      (pss_cons (ps_if (PW.pt (pw_or
          (pt_not (pt_val (pe_callB call_isi (by rfl) T.isi (by decide +kernel) (pa_cons (pv 2) (pa_cons (pe_bltn (v := .ty "tuple") (by rfl) T.tuple (by decide +kernel) rfl) pa_nil)))))
          (pw_or1 (pt_cmpR op_ne (pe_callB call_len_seq (by rfl) T.len PySem.boot_len (pa_cons (pv 2) pa_nil)) (pe_op op_shl pe_int (pv 0)) (nomark _))))) (pss_one ps_never) pss_nil)
      (pss_cons (ps_for PassesOwn.never rfl (pi_tup (pv 2)) (pg_name (i := 3) scMade.nd rfl (.inl rfl))
        (pss_one (ps_if (PW.pt (pw_and (pt_cmpR op_notN (pv 3) pe_non (nomark _))
          (pw_and1 (pt_not (pt_val (pe_call GI hr (by rfl) DI.mg DI.fn.kp DI.bd .nil pass0 (pa_cons (pv 3) (pa_cons pe_int (pa_cons (pe_op op_sub (pv 1) pe_int) pa_nil))))))))) (pss_one ps_never) pss_nil)))
      (pss_one (ps_ret (pe_tup (pa_cons (pv 0) (pa_cons (pv 1) (pa_cons (pv 2) pa_nil)))))))), ?_⟩
    refine ⟨_, rfl, (n : Int), 1, 8, rfl, by omega, by omega, true, rfl, iteN rfl ?_⟩
    refine ⟨_, rfl, k, 2, 100, rfl, h2, h100, true, rfl, iteN rfl ?_⟩
    refine ⟨_, rfl, .ref t, .ty "tuple", .type "tuple", .type "tuple", true, rfl, .ty "tuple", .base (.tup hT), kit_ty (by decide +kernel), true, rfl, iteN rfl ?_⟩
    refine ⟨_, rfl, t, _, rfl, .inr (SqT.of hT), _, rfl, 1, (n : Int), rfl, rfl, cpow8 h8, rfl, _, rfl, iteN ?_ ?_⟩
    · rw [List.length_map, hl]
      show (!decide (V.int ((2 ^ n : Nat) : Int) = V.int (1 * 2 ^ ((n : Int)).toNat))) = false
      rw [shl1, decide_eq_true rfl] <;> rfl
    refine ⟨_, rfl, t, rfl, ⟨_, SqT.of hT⟩, for_tup (K := K) (a := t) (xs := tb.map vO) (fun i σ H' => ∃ v3, σ = [some (.int (n : Int)), some (.int k), some (.ref t), v3] ∧ H' = H) ⟨none, rfl, rfl⟩ (fun i σ H' _ ⟨_, _, e⟩ => by rw [e]; exact SqT.of hT) ?_ ?_⟩
    · rintro i x σ H' hi ⟨v3, rfl, rfl⟩
      obtain ⟨r, hr2, rfl⟩ := mem_get hi
      cases r with
      | none =>
        refine ⟨_, rfl, rfl, _, rfl, iteN rfl (iteN rfl ?_)⟩
        exact ⟨_, rfl, rfl⟩
      | some z =>
        obtain ⟨z1, z2⟩ := hx z hr2
        refine ⟨_, rfl, rfl, _, rfl, iteY rfl ?_⟩
        refine ⟨_, rfl, _, rfl, _, _, rfl, rfl, z, 0, k - 1, rfl, z1, by omega, true, rfl, iteN rfl ?_⟩
        exact ⟨_, rfl, rfl⟩
    · rintro σ H' ⟨v3, rfl, rfl⟩
      refine ⟨_, rfl, _, rfl, _, rfl, (by show 3 ≤ sizeLine; decide), fun p np => ?_⟩
      exact q p _ (same_new np) np upd_same

theorem scReadable : FnScope ["writing", "cuts"] ["writing"] (defScope sReadable) := ⟨rfl, rfl, rfl, by decide +kernel, rfl, by decide +kernel, by decide +kernel⟩
theorem vO_non (r : Option Int) : (!decide (vO r = .non)) = r.isSome := by
  cases r <;> rfl
theorem filt_succ {f : Nat → Bool} {i : Nat} : (List.range (i + 1)).filter f = (List.range i).filter f ++ (if f i = true then [i] else []) := by
  rw [List.range_succ, List.filter_append]
  congr 1
  by_cases h : f i = true
  · rw [if_pos h, List.filter_cons_of_pos h] <;> rfl
  · rw [if_neg h, List.filter_cons_of_neg h] <;> rfl
theorem ok_readable {f fA : Addr} {fd fdA : FuncData} (F : Fun K "readable" "readable" sReadable f fd) (T : Txt mg) (DA : Def K mg "all_cuts" sAllCuts ["n"] fA fdA) : FnOk P w K mg base CX0 2 f fd ["writing"] (spReadable K) := by
  have GA : FnOk P w K mg base CX0 1 fA fdA ["n"] spAllCuts := ok_allCuts DA.fn T
  refine F.ok scReadable (fun vs H Q E h => ?_) (fun cdv A outer s H vs Q E hr h => ?_)
  · obtain ⟨a, n, tb, rfl, _⟩ := h
    rfl
  · obtain ⟨a, n, tb, rfl, hW, q⟩ := h
    obtain ⟨k, t, w1, w2, w3, w4, w5⟩ := id hW
    refine ⟨_, pss_one (ps_ret (pe_lc (own := [("cuts", 1)]) (g := gName 1) (by rfl) scReadable.nd
      (pi_list (pe_call GA hr (by rfl) DA.mg DA.fn.kp DA.bd .nil pass0 (pa_cons (pe_ix ix_tup (pv 0) pe_int (fun _ _ => rfl)) pa_nil)))
      (blkOk_by (own := [("cuts", 1)]) (N := ["writing", "cuts"]) (sc := defScope sReadable) (by decide +kernel))
      (fun _ _ _ _ _ => pg_name (i := 1) scReadable.nd rfl (Or.inl rfl))
      (fun _ _ _ _ _ => pts_one (pt_cmpR op_notN (pe_ix (ix_tupK (K := K) rfl) (pe_ix (ix_tupK (K := K) rfl) (pv 0) pe_int (fun _ _ => rfl)) (pv 1) (fun _ _ => rfl)) pe_non (nomark _)))
      (fun _ _ _ _ _ => pv 1))), ?_⟩
    refine ⟨_, rfl, a, _, 0, _, rfl, rfl, w1, atI_nat (j := 0) rfl, n, rfl, w5, fun p H1 s1 np hp => ?_⟩
    refine ⟨p, rfl, ⟨_, SqL.of hp⟩, fun D nD => ?_⟩
    have npD : p ≠ D := ne_of_none hp nD
    have sD : Same H (upd H1 D (.lst [])) := s1.trans (same_new nD)
    refine lc_list (K := K) (a := p) (xs := nums (List.range (2 ^ n))) (fun i H' => Same H1 H' ∧ H' D = some (.lst (nums ((List.range i).filter fun c => (rd tb c).isSome))))
      ⟨same_new nD, upd_same⟩ (fun i H' _ h => SqL.of (h.1 _ _ hp)) ?_ ?_
    · rintro i x H' hi ⟨s2, hD⟩
      obtain ⟨c, hc, rfl⟩ := nums_get hi
      have hi2 : i < 2 ^ n := by
        have := (List.getElem?_eq_some_iff.mp hc).1
        rw [List.length_range] at this
        exact this
      have ec : c = i := by
        rw [List.getElem?_range hi2] at hc
        exact (Option.some.inj hc).symm
      subst ec
      have hW2 := s1.trans s2
      refine ⟨rfl, _, rfl, a, _, 2, _, rfl, rfl, Same.tup hW2 w1, atI_nat (j := 2) rfl, _, rfl, t, _, (c : Int), _, rfl, rfl, Same.tup hW2 w2, atI_nat (getO (by omega)), rfl, _, rfl, ?_⟩
      have e := vO_non (rd tb c)
      by_cases hs : (rd tb c).isSome = true
      · refine iteY (e.trans hs) ⟨_, rfl, _, hD, ?_, fun b o hb => ?_, ?_⟩
        · rw [nums_len]
          have l1 := List.length_filter_le (fun c => (rd tb c).isSome) (List.range c)
          rw [List.length_range] at l1
          have := pow8 w5
          exact small1000 (by omega)
        · rw [upd_ne (ne_of_none hb nD)]
          exact s2 _ _ hb
        · rw [upd_same, filt_succ, if_pos hs]
          unfold nums
          rw [List.map_append] <;> rfl
      · refine iteN (e.trans (Bool.eq_false_iff.mpr hs)) ⟨s2, ?_⟩
        rw [filt_succ, if_neg hs, List.append_nil]
        exact hD
    · rintro H' ⟨s2, hD⟩
      rw [nums_len, List.length_range] at hD
      refine q D H' (s1.trans s2) (s1.free nD) ?_
      rw [hD]
      unfold rds
      rw [w3]

theorem scLays : FnScope ["writing", "how", "one", "other", "both", "found"] ["writing", "how", "one", "other"] (defScope sLays) := ⟨rfl, rfl, rfl, by decide +kernel, rfl, by decide +kernel, by decide +kernel⟩
theorem scal_vO (r : Option Int) (m : Int) : scal (vO r) (.int m) = true := by
  cases r <;> rfl
theorem vO_int (r : Option Int) (m : Int) : decide (vO r = .int m) = decide (r = some m) := by
  cases r with
  | none => rfl
  | some z =>
    show decide (V.int z = V.int m) = decide (some z = some m)
    by_cases e : z = m
    · subst e
      rw [decide_eq_true rfl, decide_eq_true rfl]
    · rw [decide_eq_false (fun h => e (V.int.inj h)), decide_eq_false (fun h => e (Option.some.inj h))]
theorem eqV_vO (r : Option Int) (m : Int) : eqV (.int m) (vO r) = decide (r = some m) := by
  cases r with
  | none => rfl
  | some z =>
    show (m == z) = decide (some z = some m)
    by_cases e : z = m
    · subst e
      rw [decide_eq_true rfl, beq_self_eq_true]
    · rw [decide_eq_false (fun h => e (Option.some.inj h))]
      exact beq_eq_false_iff_ne.mpr fun h => e h.symm
theorem flat_vO (r : Option Int) : flatV (vO r) = true := by
  cases r <;> rfl
theorem inV_two (r : Option Int) (x y : Int) : inV (vO r) [.int x, .int y] = (decide (r = some x) || decide (r = some y)) := by
  show (eqV (.int x) (vO r) || (eqV (.int y) (vO r) || false)) = _
  rw [eqV_vO, eqV_vO, Bool.or_false]
theorem max_two {x y m : Int} (h : m ∈ [x, y]) (hle : ∀ z, z ∈ [x, y] → z ≤ m) : m = max x y := by
  have h1 := hle x List.mem_cons_self
  have h2 := hle y (List.mem_cons_of_mem _ List.mem_cons_self)
  rcases List.mem_cons.mp h with e | e
  · omega
  · have e2 := List.mem_singleton.mp e
    omega
theorem ok_lays {f fR fG : Addr} {fd fdR fdG : FuncData} (F : Fun K "lays" "lays" sLays f fd) (T : Txt mg) (DR : Def K mg "reading" sReading ["writing", "cuts"] fR fdR) (DG : Def K mg "together" sTogether ["one", "other"] fG fdG) :
    FnOk P w K mg base CX0 2 f fd ["writing", "how", "one", "other"] (spLays K) := by
  have GR : FnOk P w K mg base CX0 1 fR fdR ["writing", "cuts"] (spReading K) := ok_reading DR.fn
  have GG : FnOk P w K mg base CX0 1 fG fdG ["one", "other"] spTogether := ok_together DG.fn
  obtain ⟨t1, m1⟩ := T.gre
  obtain ⟨t2, m2⟩ := T.eit
  refine F.ok scLays (fun vs H Q E h => ?_) (fun cdv A outer s H vs Q E hr h => ?_)
  · obtain ⟨a, n, tb, how, i, j, x, y, rfl, _⟩ := h
    rfl
  · obtain ⟨a, n, tb, how, i, j, x, y, rfl, hW, hx, hy, q⟩ := h
    have hlen : tb.length = 2 ^ n := by
      obtain ⟨_, _, _, _, w3, _⟩ := hW
      exact w3
    have hi : i < 2 ^ n := by
      rw [← hlen]
      exact rdb_lt (rdb_of hx)
    have hj : j < 2 ^ n := by
      rw [← hlen]
      exact rdb_lt (rdb_of hy)
    refine ⟨_, pss_cons (ps_set (i := 4) scLays.nd rfl (.inl rfl) (pe_lst (pa_cons (pe_call GR hr (by rfl) DR.mg DR.fn.kp DR.bd .nil pass0 (pa_cons (pv 0) (pa_cons (pv 2) pa_nil))) (pa_cons (pe_call GR hr (by rfl) DR.mg DR.fn.kp DR.bd .nil pass0 (pa_cons (pv 0) (pa_cons (pv 3) pa_nil))) pa_nil))))
      (pss_cons (ps_set (i := 5) scLays.nd rfl (.inl rfl) (pe_call GR hr (by rfl) DR.mg DR.fn.kp DR.bd .nil pass0 (pa_cons (pv 0) (pa_cons (pe_call GG hr (by rfl) DG.mg DG.fn.kp DG.bd .nil pass0 (pa_cons (pv 2) (pa_cons (pv 3) pa_nil))) pa_nil))))
      (pss_cons (ps_if (pt_cmpR op_eq (pv 1) (pe_glob (v := .str "greater") (by rfl) m1 ⟨_, rfl⟩) (nomark _)) (pss_one (ps_ret (pe_cmpR op_eq (pv 5) (pe_callB (cr_max rfl) (by rfl) T.max (by decide +kernel) (pa_cons (pv 4) pa_nil)) (nomark _)))) pss_nil)
      (pss_cons (ps_if (pt_cmpR op_eq (pv 1) (pe_glob (v := .str "either") (by rfl) m2 ⟨_, rfl⟩) (nomark _)) (pss_one (ps_ret (pe_cmpR op_in_seq (pv 5) (pv 4) (by rfl)))) pss_nil)
      (pss_one (ps_ret (pe_or (pe_cmpR op_isN (pv 5) pe_non (nomark _)) (pe_one (pe_cmpR op_in_seq (pv 5) (pv 4) (by rfl))))))))), ?_⟩
    refine ⟨_, rfl, _, rfl, a, n, tb, i, rfl, hW, hi, _, rfl, _, rfl, a, n, tb, j, rfl, hW, hj, (by show 2 ≤ sizeLine; decide), fun p np => ?_⟩
    rw [hx, hy]
    have s1 : Same H (upd H p (.lst [.int x, .int y])) := same_new np
    have hp : SqL K (upd H p (.lst [.int x, .int y])) p [.int x, .int y] := SqL.of upd_same
    have q1 := q _ s1
    refine ⟨_, rfl, _, rfl, _, rfl, i, j, rfl, a, n, tb, i ||| j, rfl, hW.same s1, Nat.or_lt_two_pow hi hj, ?_⟩
    cases how with
    | g =>
      refine ⟨_, rfl, rfl, _, rfl, iteY (by decide +kernel) ?_⟩
      refine ⟨_, rfl, _, rfl, p, [x, y], rfl, hp, (by show (0 : Nat) < 2; decide), fun m hm hle => ⟨scal_vO _ _, ?_⟩⟩
      have em := max_two hm hle
      subst em
      exact vIs (congrArg V.bl (vO_int _ _)) q1
    | e =>
      refine ⟨_, rfl, rfl, _, rfl, iteN (by decide +kernel) ?_⟩
      refine ⟨_, rfl, rfl, _, rfl, iteY (by decide +kernel) ?_⟩
      refine ⟨_, rfl, _, rfl, p, _, rfl, .inl hp, flat_vO _, rfl, ?_⟩
      exact vIs (congrArg V.bl (inV_two _ _ _)) q1
    | h =>
      refine ⟨_, rfl, rfl, _, rfl, iteN (by decide +kernel) ?_⟩
      refine ⟨_, rfl, rfl, _, rfl, iteN (by decide +kernel) ?_⟩
      refine ⟨_, rfl, rfl, _, rfl, ?_⟩
      cases er : rd tb (i ||| j) with
      | none =>
        rw [er] at q1
        exact iteY rfl q1
      | some z =>
        rw [er] at q1
        refine iteN rfl ⟨_, rfl, _, rfl, p, _, rfl, .inl hp, rfl, rfl, ?_⟩
        exact vIs (congrArg V.bl ((inV_two (some z) x y).trans (Bool.false_or _).symm)) q1

theorem scLaying : FnScope ["writing", "how", "some", "one", "other"] ["writing", "how"] (defScope sLaying) := ⟨rfl, rfl, rfl, by decide +kernel, rfl, by decide +kernel, by decide +kernel⟩
theorem take_mem {l : List Nat} {i c d : Nat} (h : l[i]? = some c) (hd : d ∈ l.take (i + 1)) : d ∈ l.take i ∨ d = c := by
  rw [List.take_add_one, h] at hd
  rcases List.mem_append.mp hd with z | z
  · exact .inl z
  · exact .inr (List.mem_singleton.mp z)
/-- the word is kept at a and b -/
def Ok2 (how : How) (tb : List (Option Int)) (a b : Nat) : Prop := ∀ x y : Int, rd tb a = some x → rd tb b = some y → lays how x y (rd tb (a ||| b)) = true
theorem ok_laying {f fD fL : Addr} {fd fdD fdL : FuncData} (F : Fun K "laying" "laying" sLaying f fd) (T : Txt mg) (GD : FnOk P w K mg base CX0 2 fD fdD ["writing"] (spReadable K)) (DD : Def K mg "readable" sReadable ["writing"] fD fdD)
    (GL : FnOk P w K mg base CX0 2 fL fdL ["writing", "how", "one", "other"] (spLays K)) (DL : Def K mg "lays" sLays ["writing", "how", "one", "other"] fL fdL) :
    FnOk P w K mg base CX0 3 f fd ["writing", "how"] (spLaying K) := by
  obtain ⟨t1, m1⟩ := T.so
  obtain ⟨t2, m2⟩ := T.not
  refine F.ok scLaying (fun vs H Q E h => ?_) (fun cdv A outer s H vs Q E hr h => ?_)
  · obtain ⟨a, n, tb, how, rfl, _⟩ := h
    rfl
  · obtain ⟨a, n, tb, how, rfl, hW, q⟩ := h
    refine ⟨_, pss_cons (ps_set (i := 2) scLaying.nd rfl (.inl rfl) (pe_call GD hr (by rfl) DD.mg DD.fn.kp DD.bd .nil pass0 (pa_cons (pv 0) pa_nil)))
      (pss_cons (ps_for PassesOwn.never rfl (pi_list (pv 2)) (pg_name (i := 3) scLaying.nd rfl (.inl rfl))
        (pss_one (ps_for PassesOwn.never rfl (pi_list (pv 2)) (pg_name (i := 4) scLaying.nd rfl (.inl rfl))
          (pss_one (ps_if (pt_not (pt_val (pe_call GL hr (by rfl) DL.mg DL.fn.kp DL.bd .nil pass0 (pa_cons (pv 0) (pa_cons (pv 1) (pa_cons (pv 3) (pa_cons (pv 4) pa_nil)))))))
            (pss_one (ps_ret (pe_tup (pa_cons (pe_glob (v := .str "not") (by rfl) m2 ⟨_, rfl⟩) (pa_cons (pv 3) (pa_cons (pv 4) pa_nil)))))) pss_nil)))))
      (pss_one (ps_ret (pe_tup (pa_cons (pe_glob (v := .str "so") (by rfl) m1 ⟨_, rfl⟩) pa_nil))))), ?_⟩
    refine ⟨_, rfl, a, n, tb, rfl, hW, fun l H1 s1 nl hl => ?_⟩
    refine ⟨_, rfl, l, rfl, ⟨_, SqL.of hl⟩, for_list (K := K) (a := l) (xs := nums (rds tb)) (fun i σ H' => ∃ v3 v4, σ = [some (.ref a), some (.str how.txt), some (.ref l), v3, v4] ∧ Same H1 H' ∧ ∀ c ∈ (rds tb).take i, ∀ d ∈ rds tb, Ok2 how tb c d)
      ⟨none, none, rfl, Same.refl _, fun c hc => nomatch hc⟩ (fun i σ H' _ ⟨_, _, _, s2, _⟩ => SqL.of (s2 _ _ hl)) ?_ ?_⟩
    · rintro i x σ H' hi ⟨v3, v4, rfl, s2, al⟩
      obtain ⟨c, hc, rfl⟩ := nums_get hi
      have rc : Rdb tb c := mem_rds.mp (List.mem_of_getElem? hc)
      refine ⟨_, rfl, l, rfl, ⟨_, SqL.of (s2 _ _ hl)⟩, for_list (K := K) (a := l) (xs := nums (rds tb)) (fun j σ H' => ∃ v4, σ = [some (.ref a), some (.str how.txt), some (.ref l), some (.int (c : Int)), v4] ∧ Same H1 H' ∧ ∀ d ∈ (rds tb).take j, Ok2 how tb c d)
        ⟨v4, rfl, s2, fun c hc => nomatch hc⟩ (fun i σ H' _ ⟨_, _, s2, _⟩ => SqL.of (s2 _ _ hl)) ?_ ?_⟩
      · rintro j y σ H2 hj ⟨v4, rfl, s3, bl⟩
        obtain ⟨d, hd, rfl⟩ := nums_get hj
        have rdd : Rdb tb d := mem_rds.mp (List.mem_of_getElem? hd)
        refine ⟨_, rfl, _, rfl, _, rfl, _, rfl, a, n, tb, how, c, d, _, _, rfl, hW.same (s1.trans s3), rd_num rc, rd_num rdd, fun H3 s4 => ⟨_, rfl, ?_⟩⟩
        cases e : lays how (num tb c) (num tb d) (rd tb (c ||| d)) with
        | true =>
          refine iteN rfl ⟨_, rfl, s3.trans s4, fun d' hd' => ?_⟩
          rcases take_mem hd hd' with z | z
          · exact bl d' z
          · subst z
            intro x y hx hy
            rw [rd_num rc] at hx
            rw [rd_num rdd] at hy
            rw [← Option.some.inj hx, ← Option.some.inj hy]
            exact e
        | false =>
          refine iteY rfl ⟨_, rfl, _, rfl, (by show 3 ≤ sizeLine; decide), fun p np => ?_⟩
          have s5 : Same H H3 := s1.trans (s3.trans s4)
          exact q p _ (s5.trans (same_new np)) (s5.free np) (.inr ⟨c, d, upd_same, _, _, rd_num rc, rd_num rdd, e⟩)
      · rintro σ H2 ⟨v4, rfl, s3, bl⟩
        refine ⟨_, _, rfl, s3, fun c' hc' d hd => ?_⟩
        rcases take_mem hc hc' with z | z
        · exact al c' z d hd
        · subst z
          rw [nums_len, List.take_length] at bl
          exact bl d hd
    · rintro σ H' ⟨v3, v4, rfl, s2, al⟩
      rw [nums_len, List.take_length] at al
      refine ⟨(by show 1 ≤ sizeLine; decide), fun p np => ?_⟩
      have s5 : Same H H' := s1.trans s2
      refine q p _ (s5.trans (same_new np)) (s5.free np) (.inl ⟨upd_same, fun c d x y hx hy => ?_⟩)
      exact al c (mem_rds.mpr (rdb_of hx)) d (mem_rds.mpr (rdb_of hy)) x y hx hy

theorem scReadsNumber : FnScope ["writing", "thing"] ["writing", "thing"] (defScope sReadsNumber) := ⟨rfl, rfl, rfl, by decide +kernel, rfl, by decide +kernel, by decide +kernel⟩
theorem ok_readsNumber {f fC fS fR : Addr} {fd fdC fdS fdR : FuncData} (F : Fun K "reads_number" "reads_number" sReadsNumber f fd) (GC : FnOk P w K mg base CX0 2 fC fdC ["n", "thing"] spIsCuts) (DC : Def K mg "is_cuts" sIsCuts ["n", "thing"] fC fdC)
    (DS : Def K mg "spots_in" sSpotsIn ["writing"] fS fdS) (DR : Def K mg "reading" sReading ["writing", "cuts"] fR fdR) :
    FnOk P w K mg base CX0 3 f fd ["writing", "thing"] (spReadsNumber K) := by
  have GR : FnOk P w K mg base CX0 1 fR fdR ["writing", "cuts"] (spReading K) := ok_reading DR.fn
  have GS : FnOk P w K mg base CX0 1 fS fdS ["writing"] (spSpotsIn K) := ok_spotsIn DS.fn
  refine F.ok scReadsNumber (fun vs H Q E h => ?_) (fun cdv A outer s H vs Q E hr h => ?_)
  · obtain ⟨a, n, tb, c, rfl, _⟩ := h
    rfl
  · obtain ⟨a, n, tb, c, rfl, hW, hc, q⟩ := h
    have hr1 := hr.mono (show 1 ≤ 2 by decide)
    obtain ⟨_, _, _, _, w3, w4, w5⟩ := id hW
    have hlt : c < 2 ^ n := by
      rw [← w3]
      exact rdb_lt hc
    refine ⟨_, pss_one (ps_ret (pe_and (pe_call GC hr (by rfl) DC.mg DC.fn.kp DC.bd .nil pass0 (pa_cons (pe_call GS hr1 (by rfl) DS.mg DS.fn.kp DS.bd .nil pass0 (pa_cons (pv 0) pa_nil)) (pa_cons (pv 1) pa_nil)))
      (pe_one (pe_cmpR op_notN (pe_call GR hr1 (by rfl) DR.mg DR.fn.kp DR.bd .nil pass0 (pa_cons (pv 0) (pa_cons (pv 1) pa_nil))) pe_non (nomark _))))), ?_⟩
    refine ⟨_, rfl, a, n, tb, rfl, hW, _, rfl, n, c, rfl, w5, hlt, true, rfl, iteY rfl ?_⟩
    refine ⟨_, rfl, _, rfl, a, n, tb, c, rfl, hW, hlt, rfl, ?_⟩
    exact blT ((vO_non _).trans hc) q

theorem scRightNot : FnScope ["writing", "how", "paper"] ["writing", "how", "paper"] (defScope sRightNot) := ⟨rfl, rfl, rfl, by decide +kernel, rfl, by decide +kernel, by decide +kernel⟩
theorem ok_rightNot {f fN fL : Addr} {fd fdN fdL : FuncData} (F : Fun K "right_not" "right_not" sRightNot f fd) (T : Txt mg) (GN : FnOk P w K mg base CX0 3 fN fdN ["writing", "thing"] (spReadsNumber K)) (DN : Def K mg "reads_number" sReadsNumber ["writing", "thing"] fN fdN)
    (GL : FnOk P w K mg base CX0 2 fL fdL ["writing", "how", "one", "other"] (spLays K)) (DL : Def K mg "lays" sLays ["writing", "how", "one", "other"] fL fdL) :
    FnOk P w K mg base CX0 4 f fd ["writing", "how", "paper"] (spRightNot K) := by
  obtain ⟨t2, m2⟩ := T.not
  refine F.ok scRightNot (fun vs H Q E h => ?_) (fun cdv A outer s H vs Q E hr h => ?_)
  · obtain ⟨a, n, tb, how, p, i, j, rfl, _⟩ := h
    rfl
  · obtain ⟨a, n, tb, how, p, i, j, rfl, hW, hp, ⟨x, y, hx, hy, hl⟩, q⟩ := h
    have hr2 := hr.mono (show 2 ≤ 3 by decide)
    have ix1 := fun {X : Cx} {e : Expr} {te : TE} (he : PE X e te) => he
    refine ⟨_, pss_cons (ps_if (PW.pt (pw_or
          (pt_not (pt_val (pe_callB call_isi (by rfl) T.isi (by decide +kernel) (pa_cons (pv 2) (pa_cons (pe_bltn (v := .ty "tuple") (by rfl) T.tuple (by decide +kernel) rfl) pa_nil)))))
          (pw_or (pt_cmpR op_ne (pe_callB call_len_seq (by rfl) T.len PySem.boot_len (pa_cons (pv 2) pa_nil)) pe_int (nomark _))
          (pw_or1 (pt_cmpR op_ne (pe_ix ix_tup (pv 2) pe_int (fun _ _ => rfl)) (pe_glob (v := .str "not") (by rfl) m2 ⟨_, rfl⟩) (nomark _)))))) (pss_one (ps_ret pe_bl)) pss_nil)
      (pss_cons (ps_if (PW.pt (pw_or
          (pt_not (pt_val (pe_call GN hr (by rfl) DN.mg DN.fn.kp DN.bd .nil pass0 (pa_cons (pv 0) (pa_cons (pe_ix ix_tup (pv 2) pe_int (fun _ _ => rfl)) pa_nil)))))
          (pw_or1 (pt_not (pt_val (pe_call GN hr (by rfl) DN.mg DN.fn.kp DN.bd .nil pass0 (pa_cons (pv 0) (pa_cons (pe_ix ix_tup (pv 2) pe_int (fun _ _ => rfl)) pa_nil)))))))) (pss_one (ps_ret pe_bl)) pss_nil)
      (pss_one (ps_ret (pe_not (pe_call GL hr2 (by rfl) DL.mg DL.fn.kp DL.bd .nil pass0 (pa_cons (pv 0) (pa_cons (pv 1) (pa_cons (pe_ix ix_tup (pv 2) pe_int (fun _ _ => rfl)) (pa_cons (pe_ix ix_tup (pv 2) pe_int (fun _ _ => rfl)) pa_nil))))))))), ?_⟩
    refine ⟨_, rfl, .ref p, .ty "tuple", .type "tuple", .type "tuple", true, rfl, .ty "tuple", .base (.tup hp), kit_ty (by decide +kernel), true, rfl, iteN rfl ?_⟩
    refine ⟨_, rfl, p, _, rfl, .inr (SqT.of hp), rfl, _, rfl, iteN rfl ?_⟩
    refine ⟨_, rfl, p, _, 0, _, rfl, rfl, SqT.of hp, atI_nat (j := 0) rfl, rfl, _, rfl, iteN (by decide +kernel) ?_⟩
    refine ⟨_, rfl, _, rfl, p, _, 1, _, rfl, rfl, SqT.of hp, atI_nat (j := 1) rfl, a, n, tb, i, rfl, hW, rdb_of hx, true, rfl, iteN rfl ?_⟩
    refine ⟨_, rfl, _, rfl, p, _, 2, _, rfl, rfl, SqT.of hp, atI_nat (j := 2) rfl, a, n, tb, j, rfl, hW, rdb_of hy, true, rfl, iteN rfl ?_⟩
    refine ⟨_, rfl, _, rfl, _, rfl, p, _, 1, _, rfl, rfl, SqT.of hp, atI_nat (j := 1) rfl, _, rfl, p, _, 2, _, rfl, rfl, SqT.of hp, atI_nat (j := 2) rfl, a, n, tb, how, i, j, x, y, rfl, hW, hx, hy, fun H1 s1 => ⟨_, rfl, ?_⟩⟩
    rw [hl]
    exact q H1 s1
end
end Nl

/-! The law's stream, a draw of it, the worths. -/
namespace Nl
open PySem L2
section
variable {P : Program} {w : World} {K : PySem.W.Frag} {mg : Str → Option Value} {base : Heap}

theorem scStream : FnScope ["_law_script", "_law_k", "_law_cell", "_law_mixed"] ["_law_script", "_law_k"] (defScope sStream) := ⟨rfl, rfl, rfl, by decide +kernel, rfl, by decide +kernel, by decide +kernel⟩
theorem ok_stream {f : Addr} {fd : FuncData} (F : Fun K "_law_stream" "_law_stream" sStream f fd) (T : Txt mg) : FnOk P w K mg base CX0 1 f fd ["_law_script", "_law_k"] (spStream K) := by
  refine F.ok scStream (fun vs H Q E h => ?_) (fun cdv A outer s H vs Q E hr h => ?_)
  · obtain ⟨a, ns, k, rfl, _⟩ := h
    rfl
  · obtain ⟨a, ns, k, rfl, hS, hlen, k0, k1, q⟩ := h
    refine ⟨_, pss_cons (ps_if (pt_cmpR op_lt (pv 1) (pe_callB call_len_seq (by rfl) T.len PySem.boot_len (pa_cons (pv 0) pa_nil)) (nomark _))
        (pss_cons (ps_set (i := 2) scStream.nd rfl (.inl rfl) (pe_callB call_abs (by rfl) T.abs (by decide +kernel) (pa_cons (pe_ix ix_list (pv 0) (pv 1) (fun _ _ => rfl)) pa_nil)))
        (pss_cons (ps_set (i := 3) scStream.nd rfl (.inl rfl) (pe_op op_add (pe_op op_add (pe_op op_mod (pv 2) pe_int) (pe_op op_mul (pv 1) (pv 1))) pe_int))
        (pss_cons (ps_if (pt_cmpR op_lt (pv 2) (pe_op op_pow pe_int pe_int) (nomark _)) (pss_one (ps_set (i := 2) scStream.nd rfl (.inl rfl) pe_int)) pss_nil)
        (pss_one (ps_ret (pe_lst (pa_cons (pv 2) (pa_cons (pv 3) pa_nil)))))))) pss_nil)
      (pss_one (ps_ret (pe_lst (pa_cons pe_int (pa_cons (pe_op op_add (pe_op op_mul (pv 1) (pv 1)) pe_int) pa_nil))))), ?_⟩
    refine ⟨_, rfl, _, rfl, a, _, rfl, .inl hS, _, _, rfl, rfl, _, rfl, ?_⟩
    refine ite2 (fun e => ?_) (fun e => ?_)
    · have e1 : k < (((ns.map V.int).length : Nat) : Int) := of_decide_eq_true e
      rw [List.length_map] at e1
      have hk : k.toNat < ns.length := by omega
      have hat : atI (ns.map V.int) k = some (.int ns[k.toNat]) := at_of (j := k.toNat) (by omega) (by rw [List.getElem?_map, List.getElem?_eq_getElem hk]; rfl)
      refine ⟨_, rfl, _, rfl, a, _, k, _, rfl, rfl, hS, hat, _, rfl, ?_⟩
      refine ⟨_, rfl, _, _, rfl, rfl, (by show (0 : Int) < 2147483629; decide), _, rfl, _, rfl, k, k, rfl, rfl, .inl ⟨by omega, by omega⟩, _, _, rfl, rfl, _, _, rfl, rfl, ?_⟩
      refine ⟨_, rfl, 10, 18, rfl, rfl, ⟨by decide, by decide, by decide⟩, _, _, rfl, rfl, _, rfl, ?_⟩
      refine ite2 (fun e => ?_) (fun e => ?_)
      · refine ⟨_, rfl, _, rfl, (by show 2 ≤ sizeLine; decide), fun p np => ?_⟩
        exact q p _ (same_new np) np ⟨_, _, upd_same⟩
      · refine ⟨_, rfl, _, rfl, (by show 2 ≤ sizeLine; decide), fun p np => ?_⟩
        exact q p _ (same_new np) np ⟨_, _, upd_same⟩
    · refine ⟨_, rfl, _, rfl, k, k, rfl, rfl, .inl ⟨by omega, by omega⟩, _, _, rfl, rfl, (by show 2 ≤ sizeLine; decide), fun p np => ?_⟩
      exact q p _ (same_new np) np ⟨_, _, upd_same⟩

theorem scTake : FnScope ["_law_stream_here", "_law_most", "_law_digit"] ["_law_stream_here", "_law_most"] (defScope sTake) := ⟨rfl, rfl, rfl, by decide +kernel, rfl, by decide +kernel, by decide +kernel⟩
theorem ok_take {f : Addr} {fd : FuncData} (F : Fun K "_law_take" "_law_take" sTake f fd) : FnOk P w K mg base CX0 1 f fd ["_law_stream_here", "_law_most"] spTake := by
  refine F.ok scTake (fun vs H Q E h => ?_) (fun cdv A outer s H vs Q E hr h => ?_)
  · obtain ⟨a, k, rfl, _⟩ := h
    rfl
  · obtain ⟨a, k, rfl, ⟨c, m, hS⟩, k0, k1, q⟩ := h
    refine ⟨_, pss_cons (ps_if (pt_cmpR op_eq (pe_ix ix_list (pv 0) pe_int (fun _ _ => rfl)) pe_int (nomark _))
        (pss_cons (ps_asg (pe_op op_mod (pe_op op_add (pe_op op_mul (pe_ix ix_list (pv 0) pe_int (fun _ _ => rfl)) pe_int) pe_int) pe_int) (pg_sub (pv 0) pe_int set_list))
        (pss_one (ps_ret (pe_op op_mod (pe_op op_mod (pe_op op_mul (pe_ix ix_list (pv 0) pe_int (fun _ _ => rfl)) (pe_ix ix_list (pv 0) pe_int (fun _ _ => rfl))) pe_int) (pv 1))))) pss_nil)
      (pss_cons (ps_set (i := 2) scTake.nd rfl (.inl rfl) (pe_op op_mod (pe_ix ix_list (pv 0) pe_int (fun _ _ => rfl)) (pv 1)))
      (pss_cons (ps_asg (pe_op op_fdiv (pe_ix ix_list (pv 0) pe_int (fun _ _ => rfl)) (pv 1)) (pg_sub (pv 0) pe_int set_list))
      (pss_one (ps_ret (pv 2))))), ?_⟩
    have hL := SqL.of (K := K) hS
    refine ⟨_, rfl, a, _, 0, _, rfl, rfl, hL, atI_nat (j := 0) rfl, rfl, _, rfl, ?_⟩
    refine ite2 (fun e => ?_) (fun e => ?_)
    · refine ⟨_, rfl, a, _, 1, _, rfl, rfl, hL, atI_nat (j := 1) rfl, m, 48271, rfl, rfl, .inr ⟨by decide, by decide⟩, _, _, rfl, rfl, _, _, rfl, rfl, (by show (0 : Int) < 2147483647; decide), ?_⟩
      refine ⟨_, rfl, a, _, 1, 1, rfl, rfl, hS, rfl, ?_⟩
      have hL2 : SqL K (upd H a (.lst [.int c, .int ((m * 48271 + 12345) % 2147483647)])) a [.int c, .int ((m * 48271 + 12345) % 2147483647)] := SqL.of upd_same
      have b0 : 0 ≤ (m * 48271 + 12345) % 2147483647 := Int.emod_nonneg _ (by decide)
      have b1 : (m * 48271 + 12345) % 2147483647 < 2147483647 := Int.emod_lt_of_pos _ (by decide)
      refine ⟨_, rfl, a, _, 1, _, rfl, rfl, hL2, atI_nat (j := 1) rfl, _, rfl, a, _, 1, _, rfl, rfl, hL2, atI_nat (j := 1) rfl, _, _, rfl, rfl, .inl ⟨by omega, by omega⟩, _, _, rfl, rfl, (by show (0 : Int) < 2147483629; decide), _, rfl, _, _, rfl, rfl, (by show (0 : Int) < k; omega), ?_⟩
      exact q _ _ _ (Int.emod_nonneg _ (by omega)) (Int.emod_lt_of_pos _ (by omega))
    · refine ⟨_, rfl, a, _, 0, _, rfl, rfl, hL, atI_nat (j := 0) rfl, _, rfl, _, _, rfl, rfl, (by show (0 : Int) < k; omega), ?_⟩
      refine ⟨_, rfl, a, _, 0, _, rfl, rfl, hL, atI_nat (j := 0) rfl, _, rfl, _, _, rfl, rfl, ⟨by omega, by omega⟩, ?_⟩
      refine ⟨_, rfl, a, _, 0, 0, rfl, rfl, hS, rfl, ?_⟩
      refine ⟨_, rfl, ?_⟩
      exact q _ _ _ (Int.emod_nonneg _ (by omega)) (Int.emod_lt_of_pos _ (by omega))

theorem scWorths : FnScope ["_law_stream_here", "_law_n", "_law_k", "_law_spot"] ["_law_stream_here", "_law_n", "_law_k"] (defScope sWorths) := ⟨rfl, rfl, rfl, by decide +kernel, rfl, by decide +kernel, by decide +kernel⟩
theorem ok_worths {f fT : Addr} {fd fdT : FuncData} (F : Fun K "_law_worths" "_law_worths" sWorths f fd) (T : Txt mg) (DT : Def K mg "_law_take" sTake ["_law_stream_here", "_law_most"] fT fdT) :
    FnOk P w K mg base CX0 2 f fd ["_law_stream_here", "_law_n", "_law_k"] spWorths := by
  have GT : FnOk P w K mg base CX0 1 fT fdT ["_law_stream_here", "_law_most"] spTake := ok_take DT.fn
  refine F.ok scWorths (fun vs H Q E h => ?_) (fun cdv A outer s H vs Q E hr h => ?_)
  · obtain ⟨a, n, k, rfl, _⟩ := h
    rfl
  · obtain ⟨a, n, k, rfl, hS, n8, k1, k100, q⟩ := h
    refine ⟨_, pss_one (ps_ret (pe_lc (own := [("_law_spot", 3)]) (g := gName 3) (tt := tYes) (by rfl) scWorths.nd
      (pi_range1 (by rfl) T.range (pa_cons (pe_op op_add (pv 1) pe_int) pa_nil))
      (blkOk_by (own := [("_law_spot", 3)]) (N := ["_law_stream_here", "_law_n", "_law_k", "_law_spot"]) (sc := defScope sWorths) (by decide +kernel))
      (fun _ _ _ _ _ => pg_name (i := 3) scWorths.nd rfl (Or.inl rfl))
      (fun _ _ _ _ _ => pts_nil)
      (fun _ _ _ _ _ => pe_call GT hr (by rfl) DT.mg DT.fn.kp DT.bd .nil pass0 (pa_cons (pv 0) (pa_cons (pv 2) pa_nil))))), ?_⟩
    refine ⟨_, rfl, _, _, rfl, rfl, _, rfl, by omega, by omega, fun D nD => ?_⟩
    obtain ⟨c0, m0, hS0⟩ := id hS
    have naD : a ≠ D := ne_of_none hS0 nD
    have en : (((n : Int) + 1).toNat) = n + 1 := by omega
    rw [en]
    refine lc_range (lo := 0) (n := n + 1) (fun i H' => ∃ ws : List Int, Bar a H H' ∧ Strm H' a ∧ H' D = some (.lst (ws.map V.int)) ∧ ws.length = i ∧ ∀ x ∈ ws, 0 ≤ x ∧ x < k)
      ⟨[], Bar.of (same_new nD), ⟨c0, m0, by rw [upd_ne naD]; exact hS0⟩, upd_same, rfl, fun x hx => nomatch hx⟩ ?_ ?_
    · rintro i H' hi ⟨ws, hb, hs, hD, hl, hx⟩
      refine ⟨rfl, _, rfl, _, rfl, a, k, rfl, hs, k1, by omega, fun r c m r0 r1 => ?_⟩
      have eD : (upd H' a (.lst [.int c, .int m])) D = some (.lst (ws.map V.int)) := by
        rw [upd_ne naD.symm]
        exact hD
      refine ⟨_, eD, ?_, ws ++ [r], fun b o nb hb2 => ?_, ⟨c, m, ?_⟩, ?_, ?_, fun x hx2 => ?_⟩
      · rw [List.length_map]
        exact small1000 (by omega)
      · rw [upd_ne (ne_of_none hb2 nD), upd_ne nb]
        exact hb b o nb hb2
      · rw [upd_ne naD, upd_same]
      · rw [upd_same, List.map_append] <;> rfl
      · rw [List.length_append, hl] <;> rfl
      · rcases List.mem_append.mp hx2 with z | z
        · exact hx x z
        · rw [List.mem_singleton.mp z]
          exact ⟨r0, r1⟩
    · rintro H' ⟨ws, hb, hs, hD, hl, hx⟩
      exact q D ws H' hb hs nD hD hl hx
end
end Nl

/-! The law's table. -/
namespace Nl
open PySem L2

theorem shlB {n : Nat} (h : n ≤ 8) : -(2 ^ 62) ≤ (1 : Int) * 2 ^ ((n : Int)).toNat ∧ (1 : Int) * 2 ^ ((n : Int)).toNat < 2 ^ 62 := by
  rw [shl1]
  have p := pow8 h
  generalize (2 : Nat) ^ n = m at p ⊢
  omega
/-- behind H: all stands but the stream at s; the worths ws stand at wl -/
structure Gw (s : Addr) (H H' : Hp) (wl : Addr) (ws : List Int) : Prop where
  bar : Bar s H H'
  st : Strm H' s
  w : H' wl = some (.lst (ws.map V.int))
  n1 : wl ≠ s
theorem Strm.ne {H : Hp} {s p : Addr} (h : Strm H s) (hp : H p = none) : p ≠ s := by
  obtain ⟨c, m, e⟩ := h
  exact (ne_of_none e hp).symm
theorem Strm.put {H : Hp} {s p : Addr} {o : HO} (h : Strm H s) (n : p ≠ s) : Strm (upd H p o) s := by
  obtain ⟨c, m, e⟩ := h
  exact ⟨c, m, by rw [upd_ne n.symm]; exact e⟩
theorem Gw.put {s : Addr} {H H' : Hp} {wl : Addr} {ws : List Int} (g : Gw s H H' wl ws) {D : Addr} {o : HO} (h0 : H D = none) (h1 : D ≠ s) (h2 : D ≠ wl) : Gw s H (upd H' D o) wl ws :=
  ⟨fun b u nb hb => by
    rw [upd_ne (ne_of_none hb h0)]
    exact g.bar b u nb hb, g.st.put h1, by rw [upd_ne h2.symm]; exact g.w, g.n1⟩
theorem Gw.back {s : Addr} {H H' : Hp} {wl : Addr} {ws : List Int} (g : Gw s H H' wl ws) {p : Addr} (np : H' p = none) : H p = none := g.bar.free (g.st.ne np) np
theorem Gw.new {s : Addr} {H H' : Hp} {wl : Addr} {ws : List Int} (g : Gw s H H' wl ws) {p : Addr} {o : HO} (np : H' p = none) : Gw s H (upd H' p o) wl ws :=
  g.put (g.back np) (g.st.ne np) (ne_of_none g.w np).symm
theorem Gw.take {s : Addr} {H H' : Hp} {wl : Addr} {ws : List Int} (g : Gw s H H' wl ws) (c m : Int) : Gw s H (upd H' s (.lst [.int c, .int m])) wl ws :=
  ⟨g.bar.trans Bar.upd, ⟨c, m, upd_same⟩, by rw [upd_ne g.n1]; exact g.w, g.n1⟩
/-- .. and the rows so far at rows -/
structure G (s : Addr) (H H' : Hp) (wl : Addr) (ws : List Int) (rows : Addr) (acc : List (Option Int)) : Prop where
  gw : Gw s H H' wl ws
  r : H' rows = some (.lst (acc.map vO))
  nr : H rows = none
  n2 : rows ≠ s
  n3 : rows ≠ wl
section
variable {s : Addr} {H H' : Hp} {wl : Addr} {ws : List Int} {rows : Addr} {acc : List (Option Int)}
theorem G.put (g : G s H H' wl ws rows acc) {D : Addr} {o : HO} (h0 : H D = none) (h1 : D ≠ s) (h2 : D ≠ wl) (h3 : D ≠ rows) : G s H (upd H' D o) wl ws rows acc :=
  ⟨g.gw.put h0 h1 h2, by rw [upd_ne h3.symm]; exact g.r, g.nr, g.n2, g.n3⟩
theorem G.new (g : G s H H' wl ws rows acc) {p : Addr} {o : HO} (np : H' p = none) : G s H (upd H' p o) wl ws rows acc :=
  g.put (g.gw.back np) (g.gw.st.ne np) (ne_of_none g.gw.w np).symm (ne_of_none g.r np).symm
theorem G.take (g : G s H H' wl ws rows acc) (c m : Int) : G s H (upd H' s (.lst [.int c, .int m])) wl ws rows acc :=
  ⟨g.gw.take c m, by rw [upd_ne g.n2]; exact g.r, g.nr, g.n2, g.n3⟩
theorem G.app (g : G s H H' wl ws rows acc) (x : Option Int) : G s H (upd H' rows (.lst (acc.map vO ++ [vO x]))) wl ws rows (acc ++ [x]) :=
  ⟨g.gw.put g.nr g.n2 g.n3, by rw [upd_same, List.map_append] <;> rfl, g.nr, g.n2, g.n3⟩
end
/-- the frame's values -/
def sgT (s : Addr) (n k : Int) (wl : Addr) (way thin kp : Int) (tv : Option V) (loose : Int) (rows : Addr) (c sm nm : Option V) : St :=
  [some (.ref s), some (.int n), some (.int k), some (.ref wl), some (.int way), some (.int thin), some (.int kp), tv, some (.int loose), some (.ref rows), c, sm, nm, none]
def OkR (k : Int) (r : Option Int) : Prop := ∀ x, r = some x → 0 ≤ x ∧ x < k
theorem okN (k : Int) : OkR k none := fun x h => nomatch h
theorem okS {k x : Int} (h0 : 0 ≤ x) (h1 : x < k) : OkR k (some x) := fun y h => by
  cases h
  exact ⟨h0, h1⟩
theorem flats (acc : List (Option Int)) : (acc.map vO).all flatV = true := by
  rw [List.all_map]
  exact List.all_eq_true.mpr fun r _ => flat_vO r
/-- the first of some and one more; the last of one and some -/
theorem first_of {k w : Int} {zs : List Int} (hw : 0 ≤ w ∧ w < k) (hz : ∀ z ∈ zs, 0 ≤ z ∧ z < k) : ∃ z, atI (zs.map V.int ++ [V.int w]) 0 = some (.int z) ∧ 0 ≤ z ∧ z < k := by
  cases zs with
  | nil => exact ⟨w, atI_nat (j := 0) rfl, hw⟩
  | cons z r => exact ⟨z, atI_nat (j := 0) rfl, hz z List.mem_cons_self⟩
theorem last_of {k w : Int} {zs : List Int} (hw : 0 ≤ w ∧ w < k) (hz : ∀ z ∈ zs, 0 ≤ z ∧ z < k) : ∃ z, atI ([V.int w] ++ zs.map V.int) (-1) = some (.int z) ∧ 0 ≤ z ∧ z < k := by
  have hne : w :: zs ≠ [] := List.cons_ne_nil _ _
  refine ⟨(w :: zs).getLast hne, ?_, ?_⟩
  · have e : ([V.int w] ++ zs.map V.int) = ((w :: zs).dropLast.map V.int) ++ [V.int ((w :: zs).getLast hne)] := by
      have e2 : (w :: zs).dropLast ++ [(w :: zs).getLast hne] = w :: zs := List.dropLast_concat_getLast hne
      have e3 : (w :: zs).map V.int = ((w :: zs).dropLast ++ [(w :: zs).getLast hne]).map V.int := by rw [e2]
      rw [List.map_append] at e3
      exact e3
    rw [e]
    exact atI_last _ _
  · rcases List.mem_cons.mp (List.getLast_mem hne) with q | q
    · rw [q]
      exact hw
    · exact hz _ q
theorem one_of {k a b c way : Int} (ha : 0 ≤ a ∧ a < k) (hb : 0 ≤ b ∧ b < k) (hc : 0 ≤ c ∧ c < k) : ∃ z, atI [V.int a, V.int b, V.int c] (way % 3) = some (.int z) ∧ 0 ≤ z ∧ z < k := by
  have h : way % 3 = 0 ∨ way % 3 = 1 ∨ way % 3 = 2 := by omega
  rcases h with h | h | h
  · exact ⟨a, by rw [h]; exact atI_nat (j := 0) rfl, ha⟩
  · exact ⟨b, by rw [h]; exact atI_nat (j := 1) rfl, hb⟩
  · exact ⟨c, by rw [h]; exact atI_nat (j := 2) rfl, hc⟩

section
variable {P : Program} {w : World} {K : PySem.W.Frag} {mg : Str → Option Value} {base : Heap}
abbrev nTable : List Str := ["_law_stream_here", "_law_n", "_law_k", "_law_worths_here", "_law_way", "_law_thin", "_law_kept", "_law_turn", "_law_loose", "_law_rows", "_law_cuts", "_law_some", "_law_number", "_law_spot"]
theorem scTable : FnScope nTable ["_law_stream_here", "_law_n", "_law_k"] (defScope sTable) := ⟨rfl, rfl, rfl, by decide +kernel, rfl, by decide +kernel, by decide +kernel⟩
theorem ok_table {f fT fW : Addr} {fd fdT fdW : FuncData} (F : Fun K "_law_table" "_law_table" sTable f fd) (T : Txt mg) (DT : Def K mg "_law_take" sTake ["_law_stream_here", "_law_most"] fT fdT)
    (DW : Def K mg "_law_worths" sWorths ["_law_stream_here", "_law_n", "_law_k"] fW fdW) : FnOk P w K mg base CX0 3 f fd ["_law_stream_here", "_law_n", "_law_k"] spTable := by
  have GT : FnOk P w K mg base CX0 1 fT fdT ["_law_stream_here", "_law_most"] spTake := ok_take DT.fn
  have GW : FnOk P w K mg base CX0 2 fW fdW ["_law_stream_here", "_law_n", "_law_k"] spWorths := ok_worths DW.fn T DT
  refine F.ok scTable (fun vs H Q E h => ?_) (fun cdv A outer s0 H vs Q E hr h => ?_)
  · obtain ⟨a, n, k, rfl, _⟩ := h
    rfl
  · obtain ⟨s, n, k, rfl, hS, n1, n8, k2, k100, q⟩ := h
    have hr1 := hr.mono (show 1 ≤ 2 by decide)
    refine ⟨_,
      pss_cons (ps_set (i := 3) scTable.nd rfl (.inr rfl) (pe_call GW hr (by rfl) DW.mg DW.fn.kp DW.bd .nil pass0 (pa_cons (pv 0) (pa_cons (pv 1) (pa_cons (pv 2) pa_nil))))) <|
      pss_cons (ps_set (i := 4) scTable.nd rfl (.inl rfl) (pe_call GT hr1 (by rfl) DT.mg DT.fn.kp DT.bd .nil pass0 (pa_cons (pv 0) (pa_cons pe_int pa_nil)))) <|
      pss_cons (ps_set (i := 5) scTable.nd rfl (.inl rfl) (pe_call GT hr1 (by rfl) DT.mg DT.fn.kp DT.bd .nil pass0 (pa_cons (pv 0) (pa_cons pe_int pa_nil)))) <|
      pss_cons (ps_set (i := 6) scTable.nd rfl (.inl rfl) pe_int) <|
      pss_cons (ps_for PassesOwn.never rfl (pi_range1 (by rfl) T.range (pa_cons pe_int pa_nil)) (pg_name (i := 7) scTable.nd rfl (.inl rfl)) (pss_one (ps_set (i := 6) scTable.nd rfl (.inl rfl) (pe_op op_or (pv 6) (pe_op op_shl pe_int (pe_call GT hr1 (by rfl) DT.mg DT.fn.kp DT.bd .nil pass0 (pa_cons (pv 0) (pa_cons (pv 1) pa_nil)))))))) <|
      pss_cons (ps_set (i := 8) scTable.nd rfl (.inl rfl) (pe_call GT hr1 (by rfl) DT.mg DT.fn.kp DT.bd .nil pass0 (pa_cons (pv 0) (pa_cons pe_int pa_nil)))) <|
      pss_cons (ps_set (i := 9) scTable.nd rfl (.inl rfl) (pe_lst pa_nil)) <|
      pss_cons (ps_for PassesOwn.never rfl (pi_range1 (by rfl) T.range (pa_cons (pe_op op_shl pe_int (pv 1)) pa_nil)) (pg_name (i := 10) scTable.nd rfl (.inr rfl)) (
        pss_cons (ps_setLc (i := 11) (own := [("_law_spot", 13)]) (g := gName 13) (by rfl) scTable.nd rfl rfl (sw_true rfl rfl rfl (by decide +kernel))
          (pi_range1 (by rfl) T.range (pa_cons (pv 1) pa_nil))
          (blkOk_by (own := [("_law_spot", 13)]) (N := nTable) (sc := defScope sTable) (by decide +kernel))
          (fun _ _ _ _ _ => pg_name (i := 13) scTable.nd rfl (Or.inl rfl))
          (fun _ _ _ _ _ => pts_one (pt_cmpR op_eq (pe_op op_and (pe_op op_shr (pv 10) (pv 13)) pe_int) pe_int (nomark _)))
          (fun _ _ _ _ _ => pe_ix (ix_listK (K := K) rfl) (pv 3) (pv 13) (fun _ _ => rfl))) <|
        Evl.pss_cut (ps_set (i := 12) scTable.nd rfl (.inl rfl) (pe_ix ix_list (pe_lst
            (pa_cons (pe_callB (cr_max rfl) (by rfl) T.max (by decide +kernel) (pa_cons (pe_op op_cat (pv 11) (pe_lst (pa_cons pe_int pa_nil))) pa_nil))
            (pa_cons (pe_ix ix_list (pe_op op_cat (pv 11) (pe_lst (pa_cons (pe_ix ix_list (pv 3) (pv 1) (fun _ _ => rfl)) pa_nil))) pe_int (fun _ _ => rfl))
            (pa_cons (pe_ix ix_list (pe_op op_cat (pe_lst (pa_cons (pe_ix ix_list (pv 3) (pv 1) (fun _ _ => rfl)) pa_nil)) (pv 11)) (pe_un un_neg pe_int) (fun _ _ => rfl)) pa_nil)))) (pe_op op_mod (pv 4) pe_int) (fun _ _ => rfl))) <|
        Evl.pss_cut (ps_if (pt_cmpR op_eq (pv 4) pe_int (nomark _)) (pss_one (ps_set (i := 12) scTable.nd rfl (.inl rfl) (pe_call GT hr1 (by rfl) DT.mg DT.fn.kp DT.bd .nil pass0 (pa_cons (pv 0) (pa_cons (pv 2) pa_nil))))) pss_nil) <|
        Evl.pss_cut (ps_if (PW.pt (pw_and (pt_cmpR op_eq (pv 10) pe_int (nomark _)) (pw_and1 (pt_cmpR op_eq (pv 4) pe_int (nomark _))))) (pss_one (ps_set (i := 12) scTable.nd rfl (.inl rfl) pe_int)) pss_nil) <|
        Evl.pss_cut (ps_if (PW.pt (pw_or (PW.pt (pw_and (pt_cmpR op_eq (pv 5) pe_int (nomark _)) (pw_and1 (pt_cmpR op_eq (pe_call GT hr1 (by rfl) DT.mg DT.fn.kp DT.bd .nil pass0 (pa_cons (pv 0) (pa_cons pe_int pa_nil))) pe_int (nomark _))))) (pw_or1 (PW.pt (pw_and (pt_cmpR op_eq (pv 5) pe_int (nomark _)) (pw_and1 (pt_cmpR op_eq (pv 10) pe_int (nomark _)))))))) (pss_one (ps_set (i := 12) scTable.nd rfl (.inl rfl) pe_non)) pss_nil) <|
        Evl.pss_cut (ps_if (PW.pt (pw_and (pt_cmpR op_gt (pv 1) pe_int (nomark _)) (pw_and (pt_cmpR op_ne (pe_op op_and (pv 10) (pv 6)) (pv 10) (nomark _)) (pw_and1 (PW.pt (pw_or (pt_cmpR op_eq (pv 8) pe_int (nomark _)) (pw_or1 (pt_cmpR op_gt (pe_call GT hr1 (by rfl) DT.mg DT.fn.kp DT.bd .nil pass0 (pa_cons (pv 0) (pa_cons pe_int pa_nil))) pe_int (nomark _))))))))) (pss_one (ps_set (i := 12) scTable.nd rfl (.inl rfl) pe_non)) pss_nil) <|
        Evl.pss_cut (ps_if (PW.pt (pw_and (pt_cmpR op_gt (pv 1) pe_int (nomark _)) (pw_and1 (pt_cmpR op_gt (pe_op op_sub (pe_callB call_len_seq (by rfl) T.len PySem.boot_len (pa_cons (pv 9) pa_nil)) (pe_bm PySem.F.plainAttrs_list PySem.F.slot_list_count PySem.F.type_list_count mt_countV (pv 9) (pa_cons pe_non pa_nil))) pe_int (nomark _))))) (pss_one (ps_set (i := 12) scTable.nd rfl (.inl rfl) pe_non)) pss_nil) <|
        pss_one (ps_expr (pe_bm PySem.F.plainAttrs_list PySem.F.slot_list_append PySem.F.type_list_append mt_append (pv 9) (pa_cons (pv 12) pa_nil))))) <|
      pss_one (ps_ret (pe_callTy call_tuple_of (by rfl) T.tuple (by decide +kernel) (pa_cons (pv 9) pa_nil))), ?_⟩
    -- worths, way, thin, kept
    refine ⟨_, rfl, _, rfl, _, rfl, s, n, k, rfl, hS, n8, by omega, k100, fun wl ws H1 b1 st1 nwl hwl lw bw => ?_⟩
    have g1 : Gw s H H1 wl ws := ⟨b1, st1, hwl, hS.ne nwl⟩
    refine ⟨_, rfl, s, 5, rfl, g1.st, by omega, by omega, fun way c2 m2 _ _ => ?_⟩
    have g2 := g1.take c2 m2
    refine ⟨_, rfl, s, 3, rfl, g2.st, by omega, by omega, fun thin c3 m3 _ _ => ?_⟩
    have g3 := g2.take c3 m3
    -- the kept spots
    refine ⟨4, rfl, by decide, by decide, for_range (lo := 0) (n := 4) (fun i σ H' => ∃ (kp : Int) (tv : Option V), σ = [some (.ref s), some (.int (n : Int)), some (.int k), some (.ref wl), some (.int way), some (.int thin), some (.int kp), tv, none, none, none, none, none, none] ∧ Gw s H H' wl ws)
      ⟨0, none, rfl, g3⟩ ?_ ?_⟩
    · rintro i σ H' hi ⟨kp, tv, rfl, g⟩
      refine ⟨_, rfl, _, rfl, _, rfl, s, (n : Int), rfl, g.st, by omega, by omega, fun r c m r0 r1 => ?_⟩
      exact ⟨1, r, rfl, rfl, ⟨r0, by omega, by decide⟩, _, _, rfl, rfl, _, _, rfl, g.take c m⟩
    rintro σ H4 ⟨kp, tv, rfl, g4⟩
    refine ⟨_, rfl, s, 2, rfl, g4.st, by omega, by omega, fun loose c5 m5 _ _ => ?_⟩
    have g5 := g4.take c5 m5
    refine ⟨Nat.zero_le _, fun rows nrows => ?_⟩
    have g6 : G s H (upd (upd H4 s (.lst [.int c5, .int m5])) rows (.lst [])) wl ws rows [] := ⟨g5.new nrows, upd_same, g5.back nrows, g5.st.ne nrows, (ne_of_none g5.w nrows).symm⟩
    have p8 := pow8 n8
    -- each cuts
    refine ⟨_, rfl, 1, (n : Int), rfl, rfl, cpow8 n8, _, rfl, (shlB n8).1, (shlB n8).2, ?_⟩
    have ej : ((1 : Int) * 2 ^ ((n : Int)).toNat).toNat = 2 ^ n := by rw [shl1, Int.toNat_natCast]
    rw [ej]
    refine for_range (lo := 0) (n := 2 ^ n) (fun i σ H' => ∃ (acc : List (Option Int)) (v10 v11 v12 : Option V), σ = sgT s n k wl way thin kp tv loose rows v10 v11 v12 ∧ G s H H' wl ws rows acc ∧ acc.length = i ∧ ∀ r ∈ acc, OkR k r)
      ⟨[], none, none, none, rfl, g6, rfl, fun r hr => nomatch hr⟩ ?_ ?_
    · rintro i σ H7 hi ⟨acc, v10, v11, v12, rfl, g7, la, oka⟩
      -- some
      refine ⟨_, rfl, (n : Int), rfl, by omega, by omega, fun D nD => ?_⟩
      have nD0 : H D = none := g7.gw.back nD
      have nDs : D ≠ s := g7.gw.st.ne nD
      have nDw : D ≠ wl := (ne_of_none g7.gw.w nD).symm
      have nDr : D ≠ rows := (ne_of_none g7.r nD).symm
      rw [Int.toNat_natCast]
      refine lc_range (lo := 0) (n := n) (fun j H' => ∃ zs : List Int, G s H H' wl ws rows acc ∧ H' D = some (.lst (zs.map V.int)) ∧ zs.length ≤ j ∧ ∀ z ∈ zs, 0 ≤ z ∧ z < k)
        ⟨[], g7.new nD, upd_same, Nat.le_refl _, fun z hz => nomatch hz⟩ ?_ ?_
      · rintro j H8 hj ⟨zs, g8, hD, lz, bz⟩
        have hjw : j < ws.length := by omega
        refine ⟨rfl, _, rfl, _, rfl, _, _, rfl, rfl, (by show (0 : Int) ≤ 0 + (j : Int); omega), _, _, rfl, rfl, rfl, _, rfl, ite2 (fun _ => ?_) (fun _ => ⟨zs, g8, hD, by omega, bz⟩)⟩
        refine ⟨_, rfl, _, rfl, wl, _, 0 + (j : Int), .int ws[j], rfl, rfl, SqL.of g8.gw.w, at_of (j := j) (by omega) (by rw [List.getElem?_map, List.getElem?_eq_getElem hjw]; rfl), zs.map V.int, hD, ?_, zs ++ [ws[j]], g8.put nD0 nDs nDw nDr, ?_, ?_, fun z hz => ?_⟩
        · rw [List.length_map]
          exact small1000 (by omega)
        · rw [upd_same, List.map_append] <;> rfl
        · rw [List.length_append, List.length_singleton]
          omega
        · rcases List.mem_append.mp hz with q1 | q1
          · exact bz z q1
          · rw [List.mem_singleton.mp q1]
            exact bw _ (List.getElem_mem hjw)
      rintro H8 ⟨zs, g8, hD, lz, bz⟩
      have w8 : n < ws.length := by omega
      have bwn : 0 ≤ ws[n] ∧ ws[n] < k := bw _ (List.getElem_mem w8)
      have hwn : atI (ws.map V.int) (n : Int) = some (.int ws[n]) := atI_nat (by rw [List.getElem?_map, List.getElem?_eq_getElem w8]; rfl)
      obtain ⟨z2, hz2, bz2⟩ := first_of bwn bz
      obtain ⟨z3, hz3, bz3⟩ := last_of bwn bz
      have zl : zs.length + 1 ≤ sizeLine := Nat.le_trans (show zs.length + 1 ≤ 100 by omega) (by decide)
      -- number
      refine ⟨fun σ' H' => ∃ r : Option Int, σ' = sgT s n k wl way thin kp tv loose rows (some (.int (0 + (i : Int)))) (some (.ref D)) (some (vO r)) ∧ OkR k r ∧ G s H H' wl ws rows acc, ?_, ?_⟩
      · refine ⟨_, rfl, (by show 1 ≤ sizeLine; decide), fun p1 np1 => ?_⟩
        have d1 := ne_of_none hD np1
        have g81 := g8.new (o := .lst [.int 0]) np1
        refine ⟨D, p1, zs.map V.int, [.int 0], rfl, rfl, by rw [upd_ne d1]; exact hD, upd_same, by rw [List.length_map]; exact zl, fun p2 np2 => ?_⟩
        have hD1 : (upd H8 p1 (.lst [.int 0])) D = some (.lst (zs.map V.int)) := by rw [upd_ne d1]; exact hD
        have d2 := ne_of_none hD1 np2
        have g82 := g81.new (o := .lst (zs.map V.int ++ [.int 0])) np2
        have hD2 : (upd (upd H8 p1 (.lst [.int 0])) p2 (.lst (zs.map V.int ++ [.int 0]))) D = some (.lst (zs.map V.int)) := by rw [upd_ne d2]; exact hD1
        refine ⟨p2, zs ++ [0], rfl, SqL.of (by rw [upd_same, List.map_append]; rfl), by rw [List.length_append, List.length_singleton]; omega, fun m hm hle => ?_⟩
        have bm : 0 ≤ m ∧ m < k := by
          rcases List.mem_append.mp hm with q1 | q1
          · exact bz m q1
          · rw [List.mem_singleton.mp q1]
            omega
        generalize upd (upd H8 p1 (.lst [.int 0])) p2 (.lst (zs.map V.int ++ [.int 0])) = Ha at g82 hD2
        -- the second
        refine ⟨_, rfl, _, rfl, _, rfl, wl, _, (n : Int), _, rfl, rfl, SqL.of g82.gw.w, hwn, (by show 1 ≤ sizeLine; decide), fun p3 np3 => ?_⟩
        have d3 := ne_of_none hD2 np3
        have g83 := g82.new (o := .lst [.int ws[n]]) np3
        have hD3 : (upd Ha p3 (.lst [.int ws[n]])) D = some (.lst (zs.map V.int)) := by rw [upd_ne d3]; exact hD2
        refine ⟨D, p3, zs.map V.int, [.int ws[n]], rfl, rfl, hD3, upd_same, by rw [List.length_map]; exact zl, fun p4 np4 => ?_⟩
        have d4 := ne_of_none hD3 np4
        have g84 := g83.new (o := .lst (zs.map V.int ++ [.int ws[n]])) np4
        have hD4 : (upd (upd Ha p3 (.lst [.int ws[n]])) p4 (.lst (zs.map V.int ++ [.int ws[n]]))) D = some (.lst (zs.map V.int)) := by rw [upd_ne d4]; exact hD3
        refine ⟨p4, _, 0, _, rfl, rfl, SqL.of upd_same, hz2, ?_⟩
        generalize upd (upd Ha p3 (.lst [.int ws[n]])) p4 (.lst (zs.map V.int ++ [.int ws[n]])) = Hb at g84 hD4
        -- the third
        refine ⟨_, rfl, _, rfl, wl, _, (n : Int), _, rfl, rfl, SqL.of g84.gw.w, hwn, (by show 1 ≤ sizeLine; decide), fun p5 np5 => ?_⟩
        have d5 := ne_of_none hD4 np5
        have g85 := g84.new (o := .lst [.int ws[n]]) np5
        have hD5 : (upd Hb p5 (.lst [.int ws[n]])) D = some (.lst (zs.map V.int)) := by rw [upd_ne d5]; exact hD4
        refine ⟨_, rfl, p5, D, [.int ws[n]], zs.map V.int, rfl, rfl, upd_same, hD5, by rw [List.length_map, List.length_singleton, Nat.add_comm]; exact zl, fun p6 np6 => ?_⟩
        have g86 := g85.new (o := .lst ([.int ws[n]] ++ zs.map V.int)) np6
        refine ⟨1, rfl, p6, _, -1, _, rfl, rfl, SqL.of upd_same, hz3, (by show 3 ≤ sizeLine; decide), fun p7 np7 => ?_⟩
        have g87 := g86.new (o := .lst [.int m, .int z2, .int z3]) np7
        obtain ⟨z, hz, bz4⟩ := one_of (way := way) bm bz2 bz3
        refine ⟨_, rfl, way, 3, rfl, rfl, (by show (0 : Int) < 3; decide), p7, _, way % 3, _, rfl, rfl, SqL.of upd_same, hz, ?_⟩
        exact ⟨some z, rfl, okS bz4.1 bz4.2, g87⟩
      rintro σ Ha ⟨r, rfl, okr, ga⟩
      clear g8 hD hz2 hz3 bz2 bz3 lz bz zl
      -- if way == 3
      refine ⟨fun σ' H' => ∃ r : Option Int, σ' = sgT s n k wl way thin kp tv loose rows (some (.int (0 + (i : Int)))) (some (.ref D)) (some (vO r)) ∧ OkR k r ∧ G s H H' wl ws rows acc, ?_, ?_⟩
      · refine ⟨_, rfl, rfl, _, rfl, ite2 (fun _ => ?_) (fun _ => ⟨r, rfl, okr, ga⟩)⟩
        refine ⟨_, rfl, _, rfl, s, k, rfl, ga.gw.st, by omega, by omega, fun x c m x0 x1 => ?_⟩
        exact ⟨some x, rfl, okS x0 x1, ga.take c m⟩
      rintro σ Hb ⟨r, rfl, okr, gb⟩
      clear ga
      -- if cuts == 0 and way == 0
      refine ⟨fun σ' H' => ∃ r : Option Int, σ' = sgT s n k wl way thin kp tv loose rows (some (.int (0 + (i : Int)))) (some (.ref D)) (some (vO r)) ∧ OkR k r ∧ G s H H' wl ws rows acc, ?_, ?_⟩
      · refine ⟨_, rfl, rfl, _, rfl, ite2 (fun _ => ?_) (fun _ => iteN rfl ⟨r, rfl, okr, gb⟩)⟩
        refine ⟨_, rfl, rfl, _, rfl, ite2 (fun _ => ?_) (fun _ => ⟨r, rfl, okr, gb⟩)⟩
        exact ⟨some 0, rfl, okS (by omega) (by omega), gb⟩
      rintro σ Hc ⟨r, rfl, okr, gc⟩
      clear gb
      -- thin
      refine ⟨fun σ' H' => ∃ r : Option Int, σ' = sgT s n k wl way thin kp tv loose rows (some (.int (0 + (i : Int)))) (some (.ref D)) (some (vO r)) ∧ OkR k r ∧ G s H H' wl ws rows acc, ?_, ?_⟩
      · refine ⟨_, rfl, rfl, _, rfl, ite2 (fun _ => ?_) (fun _ => iteN rfl ?_)⟩
        · refine ⟨_, rfl, s, 4, rfl, gc.gw.st, by omega, by omega, fun x c m x0 x1 => ⟨rfl, _, rfl, ite2 (fun _ => iteY rfl ⟨none, rfl, okN k, gc.take c m⟩) (fun _ => ?_)⟩⟩
          refine ⟨_, rfl, rfl, _, rfl, ite2 (fun _ => ?_) (fun _ => iteN rfl ⟨r, rfl, okr, gc.take c m⟩)⟩
          exact ⟨_, rfl, rfl, _, rfl, ite2 (fun _ => ⟨none, rfl, okN k, gc.take c m⟩) (fun _ => ⟨r, rfl, okr, gc.take c m⟩)⟩
        · refine ⟨_, rfl, rfl, _, rfl, ite2 (fun _ => ?_) (fun _ => iteN rfl ⟨r, rfl, okr, gc⟩)⟩
          exact ⟨_, rfl, rfl, _, rfl, ite2 (fun _ => ⟨none, rfl, okN k, gc⟩) (fun _ => ⟨r, rfl, okr, gc⟩)⟩
      rintro σ Hd ⟨r, rfl, okr, gd⟩
      clear gc
      -- beyond five spots
      refine ⟨fun σ' H' => ∃ r : Option Int, σ' = sgT s n k wl way thin kp tv loose rows (some (.int (0 + (i : Int)))) (some (.ref D)) (some (vO r)) ∧ OkR k r ∧ G s H H' wl ws rows acc, ?_, ?_⟩
      · refine ⟨_, rfl, _, _, rfl, rfl, _, rfl, ite2 (fun _ => ?_) (fun _ => iteN rfl ⟨r, rfl, okr, gd⟩)⟩
        refine ⟨_, rfl, _, rfl, _, _, rfl, rfl, _, rfl, rfl, _, rfl, ite2 (fun _ => ?_) (fun _ => iteN rfl ⟨r, rfl, okr, gd⟩)⟩
        refine ⟨_, rfl, rfl, _, rfl, ite2 (fun _ => iteY rfl ⟨none, rfl, okN k, gd⟩) (fun _ => ?_)⟩
        refine ⟨_, rfl, s, 24, rfl, gd.gw.st, by omega, by omega, fun x c m x0 x1 => ⟨_, _, rfl, rfl, _, rfl, ite2 (fun _ => ⟨none, rfl, okN k, gd.take c m⟩) (fun _ => ⟨r, rfl, okr, gd.take c m⟩)⟩⟩
      rintro σ He ⟨r, rfl, okr, ge⟩
      clear gd
      refine ⟨fun σ' H' => ∃ r : Option Int, σ' = sgT s n k wl way thin kp tv loose rows (some (.int (0 + (i : Int)))) (some (.ref D)) (some (vO r)) ∧ OkR k r ∧ G s H H' wl ws rows acc, ?_, ?_⟩
      · have hR : SqL K He rows (acc.map vO) := SqL.of ge.r
        refine ⟨_, rfl, _, _, rfl, rfl, _, rfl, ite2 (fun _ => ?_) (fun _ => iteN rfl ⟨r, rfl, okr, ge⟩)⟩
        exact ⟨_, rfl, rows, _, rfl, .inl hR, _, rfl, .inl ⟨rfl, _, hR⟩, rows, _, .non, rfl, rfl, hR, rfl, flats acc, _, _, rfl, rfl, _, _, rfl, rfl, _, rfl, ite2 (fun _ => ⟨none, rfl, okN k, ge⟩) (fun _ => ⟨r, rfl, okr, ge⟩)⟩
      rintro σ Hf ⟨r, rfl, okr, gf⟩
      clear ge
      -- rows.append(number)
      have hR : SqL K Hf rows (acc.map vO) := SqL.of gf.r
      refine ⟨_, rfl, .inl ⟨rfl, _, hR⟩, _, rfl, rows, _, _, rfl, rfl, gf.r, ?_, acc ++ [r], _, _, _, rfl, gf.app r, ?_, fun x hx => ?_⟩
      · rw [List.length_map]
        exact small1000 (by omega)
      · rw [List.length_append, la] <;> rfl
      · rcases List.mem_append.mp hx with q1 | q1
        · exact oka x q1
        · rw [List.mem_singleton.mp q1]
          exact okr
    · rintro σ H9 ⟨acc, v10, v11, v12, rfl, g9, la, oka⟩
      refine ⟨_, rfl, rows, _, rfl, .inl ⟨SqL.of g9.r, fun p np => ?_⟩⟩
      exact q p acc _ (g9.gw.bar.trans (Bar.of (same_new np))) (g9.gw.back np) upd_same la fun x hx => oka _ hx x rfl
end
end Nl

/-! The law's drawn case. -/
namespace Nl
open PySem L2
theorem spot_of {r : Int} (h0 : 0 ≤ r) (h1 : r < 8) : ∃ n : Nat, atI [V.int 1, V.int 2, V.int 3, V.int 4, V.int 6, V.int 5, V.int 7, V.int 8] r = some (.int (n : Int)) ∧ 1 ≤ n ∧ n ≤ 8 := by
  have h : r = 0 ∨ r = 1 ∨ r = 2 ∨ r = 3 ∨ r = 4 ∨ r = 5 ∨ r = 6 ∨ r = 7 := by omega
  rcases h with h | h | h | h | h | h | h | h
  · exact ⟨1, by rw [h]; exact atI_nat (j := 0) rfl, by omega, by omega⟩
  · exact ⟨2, by rw [h]; exact atI_nat (j := 1) rfl, by omega, by omega⟩
  · exact ⟨3, by rw [h]; exact atI_nat (j := 2) rfl, by omega, by omega⟩
  · exact ⟨4, by rw [h]; exact atI_nat (j := 3) rfl, by omega, by omega⟩
  · exact ⟨6, by rw [h]; exact atI_nat (j := 4) rfl, by omega, by omega⟩
  · exact ⟨5, by rw [h]; exact atI_nat (j := 5) rfl, by omega, by omega⟩
  · exact ⟨7, by rw [h]; exact atI_nat (j := 6) rfl, by omega, by omega⟩
  · exact ⟨8, by rw [h]; exact atI_nat (j := 7) rfl, by omega, by omega⟩
theorem many_of {r x : Int} (h0 : 0 ≤ r) (h1 : r < 4) (x0 : 0 ≤ x) (x1 : x < 99) : ∃ k : Int, atI [V.int 2, V.int 3, V.int 100, V.int (2 + x)] r = some (.int k) ∧ 2 ≤ k ∧ k ≤ 100 := by
  have h : r = 0 ∨ r = 1 ∨ r = 2 ∨ r = 3 := by omega
  rcases h with h | h | h | h
  · exact ⟨2, by rw [h]; exact atI_nat (j := 0) rfl, by omega, by omega⟩
  · exact ⟨3, by rw [h]; exact atI_nat (j := 1) rfl, by omega, by omega⟩
  · exact ⟨100, by rw [h]; exact atI_nat (j := 2) rfl, by omega, by omega⟩
  · exact ⟨2 + x, by rw [h]; exact atI_nat (j := 3) rfl, by omega, by omega⟩
theorem rep_flat : ∀ m : Nat, (List.replicate m [V.non]).flatten = (List.replicate m (none : Option Int)).map vO
  | 0 => rfl
  | m + 1 => by
    rw [List.replicate_succ, List.replicate_succ, List.flatten_cons, rep_flat m, List.map_cons] <;> rfl
section
variable {P : Program} {w : World} {K : PySem.W.Frag} {mg : Str → Option Value} {base : Heap}
theorem scDrawn : FnScope ["_law_stream_here", "_law_n", "_law_rows", "_law_many", "_law_k"] ["_law_stream_here"] (defScope sDrawn) := ⟨rfl, rfl, rfl, by decide +kernel, rfl, by decide +kernel, by decide +kernel⟩
theorem ok_drawn {f fT fB : Addr} {fd fdT fdB : FuncData} (F : Fun K "_law_drawn" "_law_drawn" sDrawn f fd) (T : Txt mg) (DT : Def K mg "_law_take" sTake ["_law_stream_here", "_law_most"] fT fdT)
    (GB : FnOk P w K mg base CX0 3 fB fdB ["_law_stream_here", "_law_n", "_law_k"] spTable) (DB : Def K mg "_law_table" sTable ["_law_stream_here", "_law_n", "_law_k"] fB fdB) : FnOk P w K mg base CX0 4 f fd ["_law_stream_here"] spDrawn := by
  have GT : FnOk P w K mg base CX0 1 fT fdT ["_law_stream_here", "_law_most"] spTake := ok_take DT.fn
  refine F.ok scDrawn (fun vs H Q E h => ?_) (fun cdv A outer s0 H vs Q E hr h => ?_)
  · obtain ⟨a, rfl, _⟩ := h
    rfl
  · obtain ⟨s, rfl, hS, q⟩ := h
    have hr1 := hr.mono (show 1 ≤ 3 by decide)
    refine ⟨_,
      pss_cons (ps_set (i := 1) scDrawn.nd rfl (.inl rfl) (pe_ix ix_list (pe_lst (pa_cons pe_int (pa_cons pe_int (pa_cons pe_int (pa_cons pe_int (pa_cons pe_int (pa_cons pe_int (pa_cons pe_int (pa_cons pe_int pa_nil)))))))))
        (pe_call GT hr1 (by rfl) DT.mg DT.fn.kp DT.bd .nil pass0 (pa_cons (pv 0) (pa_cons pe_int pa_nil))) (fun _ _ => rfl))) <|
      pss_cons (ps_if (pt_cmpR op_eq (pe_call GT hr1 (by rfl) DT.mg DT.fn.kp DT.bd .nil pass0 (pa_cons (pv 0) (pa_cons pe_int pa_nil))) pe_int (nomark _))
        (pss_cons (ps_set (i := 2) scDrawn.nd rfl (.inl rfl) (pe_op op_rep (pe_lst (pa_cons pe_non pa_nil)) (pe_op op_shl pe_int (pv 1)))) <|
          pss_cons (ps_for PassesOwn.never rfl (pi_range1 (by rfl) T.range (pa_cons (pe_op op_add (pv 1) pe_int) pa_nil)) (pg_name (i := 3) scDrawn.nd rfl (.inl rfl))
            (pss_one (ps_asg (pv 3) (pg_sub (pv 2) (pe_op op_sub (pe_op op_shl pe_int (pv 3)) pe_int) set_list)))) <|
          pss_one (ps_ret (pe_tup (pa_cons (pv 1) (pa_cons (pe_op op_add (pv 1) pe_int) (pa_cons (pe_callTy call_tuple_of (by rfl) T.tuple (by decide +kernel) (pa_cons (pv 2) pa_nil)) pa_nil)))))) pss_nil) <|
      pss_cons (ps_set (i := 4) scDrawn.nd rfl (.inl rfl) (pe_ix ix_list (pe_lst (pa_cons pe_int (pa_cons pe_int (pa_cons pe_int (pa_cons (pe_op op_add pe_int (pe_call GT hr1 (by rfl) DT.mg DT.fn.kp DT.bd .nil pass0 (pa_cons (pv 0) (pa_cons pe_int pa_nil)))) pa_nil)))))
        (pe_call GT hr1 (by rfl) DT.mg DT.fn.kp DT.bd .nil pass0 (pa_cons (pv 0) (pa_cons pe_int pa_nil))) (fun _ _ => rfl))) <|
      pss_one (ps_ret (pe_tup (pa_cons (pv 1) (pa_cons (pv 4) (pa_cons (pe_call GB hr (by rfl) DB.mg DB.fn.kp DB.bd .nil pass0 (pa_cons (pv 0) (pa_cons (pv 1) (pa_cons (pv 4) pa_nil)))) pa_nil))))), ?_⟩
    -- n
    refine ⟨(by show 8 ≤ sizeLine; decide), fun p1 np1 => ?_⟩
    have n1s : p1 ≠ s := hS.ne np1
    have st1 := hS.put (o := .lst [.int 1, .int 2, .int 3, .int 4, .int 6, .int 5, .int 7, .int 8]) n1s
    refine ⟨_, rfl, s, 8, rfl, st1, by omega, by omega, fun r c m r0 r1 => ?_⟩
    obtain ⟨n, hn, n1, n8⟩ := spot_of r0 r1
    refine ⟨p1, _, r, _, rfl, rfl, SqL.of (by rw [upd_ne n1s, upd_same]), hn, ?_⟩
    have b1 : Bar s H (upd (upd H p1 (.lst [.int 1, .int 2, .int 3, .int 4, .int 6, .int 5, .int 7, .int 8])) s (.lst [.int c, .int m])) := (Bar.of (same_new np1)).trans Bar.upd
    have st2 : Strm (upd (upd H p1 (.lst [.int 1, .int 2, .int 3, .int 4, .int 6, .int 5, .int 7, .int 8])) s (.lst [.int c, .int m])) s := ⟨c, m, upd_same⟩
    generalize upd (upd H p1 (.lst [.int 1, .int 2, .int 3, .int 4, .int 6, .int 5, .int 7, .int 8])) s (.lst [.int c, .int m]) = H1 at b1 st2
    have p8 := pow8 n8
    -- if take == 1
    refine ⟨_, rfl, s, 6, rfl, st2, by omega, by omega, fun r' c' m' _ _ => ⟨rfl, _, rfl, ?_⟩⟩
    have b2 : Bar s H (upd H1 s (.lst [.int c', .int m'])) := b1.trans Bar.upd
    have st3 : Strm (upd H1 s (.lst [.int c', .int m'])) s := ⟨c', m', upd_same⟩
    generalize upd H1 s (.lst [.int c', .int m']) = H2 at b2 st3
    refine ite2 (fun _ => ?_) (fun _ => ?_)
    · -- the first spots alone
      refine ⟨(by show 1 ≤ sizeLine; decide), fun p3 np3 => ?_⟩
      refine ⟨_, rfl, 1, (n : Int), rfl, rfl, cpow8 n8, p3, _, [.non], rfl, rfl, upd_same, ?_, ?_, ?_, fun rows nrows => ?_⟩
      · have := (shlB n8).1
        omega
      · have := (shlB n8).2
        omega
      · rw [shl1, Int.toNat_natCast]
        show 1 * 2 ^ n ≤ sizeLine
        rw [Nat.one_mul]
        exact Nat.le_trans p8 (by decide)
      have b3 : Bar s H (upd H2 p3 (.lst [.non])) := b2.trans (Bar.of (same_new np3))
      have st4 : Strm (upd H2 p3 (.lst [.non])) s := st3.put (st3.ne np3)
      have nr0 : H rows = none := b3.free (st4.ne nrows) nrows
      have nrs : rows ≠ s := st4.ne nrows
      refine ⟨_, rfl, _, _, rfl, rfl, _, rfl, by omega, by omega, ?_⟩
      have en : ((n : Int) + 1).toNat = n + 1 := by omega
      rw [en]
      refine for_range (lo := 0) (n := n + 1) (fun i σ H' => ∃ (tb : List (Option Int)) (v3 : Option V), σ = [some (.ref s), some (.int (n : Int)), some (.ref rows), v3, none] ∧ Bar s H H' ∧ Strm H' s ∧ H' rows = some (.lst (tb.map vO)) ∧ tb.length = 2 ^ n ∧ ∀ x, some x ∈ tb → 0 ≤ x ∧ x < (n : Int) + 1)
        ⟨List.replicate (2 ^ n) none, none, rfl, b3.trans (Bar.of (same_new nrows)), st4.put nrs, by rw [upd_same, shl1, Int.toNat_natCast, rep_flat], List.length_replicate, fun x hx => by cases (List.mem_replicate.mp hx).2⟩ ?_ ?_
      · rintro i σ H3 hi ⟨tb, v3, rfl, b, st, hR, hl, hx⟩
        have i8 : i ≤ n := by omega
        have hlt : 2 ^ i - 1 < 2 ^ n := by
          have h1 : 2 ^ i ≤ 2 ^ n := Nat.pow_le_pow_right (by decide) i8
          have h2 : 0 < 2 ^ i := Nat.two_pow_pos i
          omega
        have e0 : (0 : Int) + (i : Int) = (i : Int) := by omega
        rw [e0]
        have ix : ((1 : Int) * 2 ^ ((i : Int)).toNat) - 1 = ((2 ^ i - 1 : Nat) : Int) := by
          rw [shl1]
          have h2 : 0 < 2 ^ i := Nat.two_pow_pos i
          omega
        refine ⟨_, rfl, _, rfl, _, rfl, 1, (i : Int), rfl, rfl, cpow8 (by omega), _, _, rfl, rfl, rows, _, _, 2 ^ i - 1, rfl, rfl, hR, ?_, tb.set (2 ^ i - 1) (some (i : Int)), some (.int (i : Int)), rfl, ?_, ?_, ?_, ?_, fun x hx2 => ?_⟩
        · rw [ix, List.length_map, hl]
          exact Evl.ixN_nat hlt
        · intro b' o nb hb
          rw [upd_ne (ne_of_none hb nr0)]
          exact b b' o nb hb
        · exact st.put nrs
        · rw [upd_same, List.map_set] <;> rfl
        · rw [List.length_set]
          exact hl
        · rcases List.mem_or_eq_of_mem_set hx2 with z | z
          · exact hx x z
          · cases z
            omega
      · rintro σ H3 ⟨tb, v3, rfl, b, st, hR, hl, hx⟩
        refine ⟨_, rfl, _, rfl, _, _, rfl, rfl, _, rfl, rows, _, rfl, .inl ⟨SqL.of hR, fun t nt => ⟨(by show 3 ≤ sizeLine; decide), fun p np => ?_⟩⟩⟩
        have ht : (upd H3 t (.tup (tb.map vO))) t = some (.tup (tb.map vO)) := upd_same
        refine q p t n ((n : Int) + 1) tb _ (b.trans ((Bar.of (same_new nt)).trans (Bar.of (same_new np)))) upd_same ?_ hl n1 n8 (by omega) (by omega) hx
        rw [upd_ne (ne_of_none ht np)]
        exact ht
    · -- a table
      refine ⟨_, rfl, s, 99, rfl, st3, by omega, by omega, fun x c3 m3 x0 x1 => ?_⟩
      refine ⟨2, x, rfl, rfl, (by show 4 ≤ sizeLine; decide), fun p3 np3 => ?_⟩
      have b3 : Bar s H (upd H2 s (.lst [.int c3, .int m3])) := b2.trans Bar.upd
      have st4 : Strm (upd H2 s (.lst [.int c3, .int m3])) s := ⟨c3, m3, upd_same⟩
      have n3s := st4.ne np3
      refine ⟨_, rfl, s, 4, rfl, st4.put n3s, by omega, by omega, fun y c4 m4 y0 y1 => ?_⟩
      obtain ⟨k, hk, k2, k100⟩ := many_of y0 y1 x0 x1
      refine ⟨p3, _, y, _, rfl, rfl, SqL.of (by rw [upd_ne n3s, upd_same]), hk, ?_⟩
      have b4 : Bar s H (upd (upd (upd H2 s (.lst [.int c3, .int m3])) p3 (.lst [.int 2, .int 3, .int 100, .int (2 + x)])) s (.lst [.int c4, .int m4])) := b3.trans ((Bar.of (same_new np3)).trans Bar.upd)
      refine ⟨_, rfl, _, rfl, _, rfl, _, rfl, _, rfl, s, n, k, rfl, ⟨c4, m4, upd_same⟩, n1, n8, k2, k100, fun t tb H5 b5 nt ht hl hx => ⟨(by show 3 ≤ sizeLine; decide), fun p np => ?_⟩⟩
      refine q p t n k tb _ (b4.trans (b5.trans (Bar.of (same_new np)))) upd_same ?_ hl n1 n8 k2 k100 hx
      rw [upd_ne (ne_of_none ht np)]
      exact ht
end
end Nl

/-! The law's two looks: at the words, at a list. -/
namespace Nl
open PySem L2
/-- what laying told at p, by whether it is so -/
def Told (H : Hp) (p : Addr) (w : How) (tb : List (Option Int)) (d : Bool) : Prop :=
  (d = true ∧ H p = some (.tup [.str "so"]) ∧ AllLay w tb) ∨ (d = false ∧ ∃ a b : Nat, H p = some (.tup [.str "not", .int (a : Int), .int (b : Int)]) ∧ NotAt w tb a b)
theorem Found.told {H : Hp} {p : Addr} {w : How} {tb : List (Option Int)} (h : Found H p w tb) : ∃ d, Told H p w tb d := by
  rcases h with ⟨h1, h2⟩ | ⟨a, b, h1, h2⟩
  · exact ⟨true, .inl ⟨rfl, h1, h2⟩⟩
  · exact ⟨false, .inr ⟨rfl, a, b, h1, h2⟩⟩
theorem Told.same {H H' : Hp} {p : Addr} {w : How} {tb : List (Option Int)} {d : Bool} (h : Told H p w tb d) (e : Same H H') : Told H' p w tb d := by
  rcases h with ⟨h0, h1, h2⟩ | ⟨h0, a, b, h1, h2⟩
  · exact .inl ⟨h0, e _ _ h1, h2⟩
  · exact .inr ⟨h0, a, b, e _ _ h1, h2⟩
theorem Told.all {H : Hp} {p : Addr} {w : How} {tb : List (Option Int)} {d : Bool} (h : Told H p w tb d) (e : d = true) : AllLay w tb := by
  rcases h with ⟨_, _, h2⟩ | ⟨h0, _⟩
  · exact h2
  · rw [h0] at e
    cases e
theorem Told.yes {H : Hp} {p : Addr} {w : How} {tb : List (Option Int)} {d : Bool} (h : Told H p w tb d) (e : AllLay w tb) : d = true := by
  rcases h with ⟨h0, _, h2⟩ | ⟨h0, a, b, _, h2⟩
  · exact h0
  · exact absurd e (not_all h2)
/-- the first word of a paper -/
theorem Told.head {H : Hp} {p : Addr} {w : How} {tb : List (Option Int)} {d : Bool} (h : Told H p w tb d) : ∃ (xs : List V) (z : Str), H p = some (.tup xs) ∧ xs[0]? = some (.str z) ∧ decide (V.str z = V.str "so") = d := by
  rcases h with ⟨h0, h1, h2⟩ | ⟨h0, a, b, h1, h2⟩
  · exact ⟨_, _, h1, rfl, by rw [h0]; decide +kernel⟩
  · exact ⟨_, _, h1, rfl, by rw [h0]; decide +kernel⟩
abbrev dSo : PyData := .tuple [.str "so"]
/-- a paper as data, against ("so",) -/
theorem Told.data {K : PySem.W.Frag} {H : Hp} {p : Addr} {w : How} {tb : List (Option Int)} {d : Bool} (h : Told H p w tb d) : ∃ e : PyData, Dp K H (.ref p) e ∧ SeqAt.shaped e = true ∧ PyData.eqv e dSo = d := by
  rcases h with ⟨h0, h1, h2⟩ | ⟨h0, a, b, h1, h2⟩
  · exact ⟨dSo, .tup (SqT.of h1) (.cons (.str _) .nil), by decide +kernel, by rw [h0]; decide +kernel⟩
  · refine ⟨.tuple [.str "not", .int (a : Int), .int (b : Int)], .tup (SqT.of h1) (.cons (.str _) (.cons (.int _) (.cons (.int _) .nil))), ?_, ?_⟩
    · have e : PyData.canLay0 (.str "not") = true := by decide +kernel
      unfold SeqAt.shaped
      simp [PyData.canLay0, PyData.canLayAll0, PyData.depth, PyData.depthAll] at e ⊢
      exact e
    · rw [h0]
      simp [PyData.eqv, PyData.eqvAll]
theorem dp_so {K : PySem.W.Frag} {H : Hp} {u : Addr} (h : H u = some (.tup [.str "so"])) : Dp K H (.ref u) dSo := .tup (SqT.of h) (.cons (.str _) .nil)
theorem sh_so : SeqAt.shaped dSo = true := by decide +kernel
theorem call_lenK {X : Cx} {K : PySem.W.Frag} (h : X.K = K) : CallR X (.builtin "len") (fun xs H Q => ∃ p ys, xs = [.ref p] ∧ (SqL K H p ys ∨ SqT K H p ys) ∧ Q (.int ys.length) H) := by
  subst h
  exact call_len_seq

section
variable {P : Program} {w : World} {K : PySem.W.Frag} {mg : Str → Option Value} {base : Heap}
abbrev nWords : List Str := ["_law_writing", "_law_found", "_law_paper", "_law_told", "_law_how", "_law_both", "_law_read"]
theorem scWordsRight : FnScope nWords ["_law_writing", "_law_found"] (defScope sWordsRight) := ⟨rfl, rfl, rfl, by decide +kernel, rfl, by decide +kernel, by decide +kernel⟩
theorem ok_wordsRight {f fR fL fN : Addr} {fd fdR fdL fdN : FuncData} (F : Fun K "_law_words_right" "_law_words_right" sWordsRight f fd) (T : Txt mg) (DR : Def K mg "reading" sReading ["writing", "cuts"] fR fdR)
    (DL : Def K mg "laid" sLaid ["some"] fL fdL) (GN : FnOk P w K mg base CX0 4 fN fdN ["writing", "how", "paper"] (spRightNot K)) (DN : Def K mg "right_not" sRightNot ["writing", "how", "paper"] fN fdN) :
    FnOk P w K mg base CX0 5 f fd ["_law_writing", "_law_found"] (spWordsRight K) := by
  have GR : FnOk P w K mg base CX0 1 fR fdR ["writing", "cuts"] (spReading K) := ok_reading DR.fn
  have GL : FnOk P w K mg base CX0 1 fL fdL ["some"] (spLaid K) := ok_laid DL.fn
  refine F.ok scWordsRight (fun vs H Q E h => ?_) (fun cdv A outer s H vs Q E hr h => ?_)
  · obtain ⟨a, n, tb, l, p0, p1, p2, rfl, _⟩ := h
    rfl
  · obtain ⟨a, n, tb, l, p0, p1, p2, rfl, hW, hl, f0, f1, f2, q⟩ := h
    have hr1 := hr.mono (show 1 ≤ 4 by decide)
    obtain ⟨d0, t0⟩ := f0.told
    obtain ⟨d1, t1⟩ := f1.told
    obtain ⟨d2, t2⟩ := f2.told
    have i01 : d0 = true → d1 = true := fun e => t1.yes (all_ge (t0.all e))
    have i12 : d1 = true → d2 = true := fun e => t2.yes (all_eh (t1.all e))
    refine ⟨_,
      pss_cons (ps_setLc (i := 3) (own := [("_law_paper", 2)]) (g := gName 2) (tt := tYes) (by rfl) scWordsRight.nd rfl rfl (sw_true rfl rfl rfl (by decide +kernel))
          (pi_list (pv 1))
          (blkOk_by (own := [("_law_paper", 2)]) (N := nWords) (sc := defScope sWordsRight) (by decide +kernel))
          (fun _ _ _ _ _ => pg_name (i := 2) scWordsRight.nd rfl (Or.inl rfl))
          (fun _ _ _ _ _ => pts_nil)
          (fun _ _ _ _ _ => pe_cmpR op_eq (pe_ix (ix_tupK (K := K) rfl) (pv 2) pe_int (fun _ _ => rfl)) pe_str (nomark _))) <|
      Evl.pss_cut (ps_if (PW.pt (pw_or (PW.pt (pw_and (pt_val (pe_ix ix_list (pv 3) pe_int (fun _ _ => rfl))) (pw_and1 (pt_not (pt_val (pe_ix ix_list (pv 3) pe_int (fun _ _ => rfl)))))))
          (pw_or1 (PW.pt (pw_and (pt_val (pe_ix ix_list (pv 3) pe_int (fun _ _ => rfl))) (pw_and1 (pt_not (pt_val (pe_ix ix_list (pv 3) pe_int (fun _ _ => rfl)))))))))) (pss_one (ps_ret pe_bl)) pss_nil) <|
      pss_cons (ps_for PassesOwn.never rfl (pi_zip (by rfl) T.zip (pa_cons (pe_lst (pa_cons pe_str (pa_cons pe_str (pa_cons pe_str pa_nil)))) (pa_cons (pv 1) pa_nil)))
          (pg_tup rfl (pgs_cons (pg_name (i := 4) scWordsRight.nd rfl (.inl rfl)) (pgs_cons (pg_name (i := 2) scWordsRight.nd rfl (.inl rfl)) pgs_nil)))
        (pss_one (ps_if (pt_cmpR (op_neD hr.units) (pv 2) (pe_tup (pa_cons pe_str pa_nil)) (nomark _))
          (pss_cons (ps_set (i := 5) scWordsRight.nd rfl (.inl rfl) (pe_lst (pa_cons (pe_call GR hr1 (by rfl) DR.mg DR.fn.kp DR.bd .nil pass0 (pa_cons (pv 0) (pa_cons (pe_ix ix_tup (pv 2) pe_int (fun _ _ => rfl)) pa_nil)))
              (pa_cons (pe_call GR hr1 (by rfl) DR.mg DR.fn.kp DR.bd .nil pass0 (pa_cons (pv 0) (pa_cons (pe_ix ix_tup (pv 2) pe_int (fun _ _ => rfl)) pa_nil))) pa_nil)))) <|
            pss_cons (ps_set (i := 6) scWordsRight.nd rfl (.inl rfl) (pe_call GR hr1 (by rfl) DR.mg DR.fn.kp DR.bd .nil pass0 (pa_cons (pv 0) (pa_cons (pe_call GL hr1 (by rfl) DL.mg DL.fn.kp DL.bd .nil pass0
              (pa_cons (pe_lst (pa_cons (pe_ix ix_tup (pv 2) pe_int (fun _ _ => rfl)) (pa_cons (pe_ix ix_tup (pv 2) pe_int (fun _ _ => rfl)) pa_nil))) pa_nil)) pa_nil)))) <|
            pss_one (ps_if (PW.pt (pw_or (pt_cmpR op_isnot_bl (pe_call GN hr (by rfl) DN.mg DN.fn.kp DN.bd .nil pass0 (pa_cons (pv 0) (pa_cons (pv 4) (pa_cons (pv 2) pa_nil)))) pe_bl (nomark _))
              (pw_or (pt_cmpR op_in_seq pe_non (pv 5) (by rfl)) (pw_or1 (pt_cmpR op_eq (pv 6) (pe_callB (cr_max rfl) (by rfl) T.max (by decide +kernel) (pa_cons (pv 5) pa_nil)) (nomark _)))))) (pss_one (ps_ret pe_bl)) pss_nil)) pss_nil))) <|
      pss_one (ps_ret pe_bl), ?_⟩
    -- told
    refine ⟨_, rfl, l, rfl, ⟨_, SqL.of hl⟩, fun D nD => ?_⟩
    refine lc_list (K := K) (a := l) (xs := [.ref p0, .ref p1, .ref p2]) (fun i H' => Same H H' ∧ H' D = some (.lst (([d0, d1, d2].take i).map V.bl)))
      ⟨same_new nD, upd_same⟩ (fun i H' _ h => SqL.of (h.1 _ _ hl)) ?_ ?_
    · rintro i x H1 hi ⟨s1, hD⟩
      obtain ⟨p, w', d, rfl, hd, tp⟩ : ∃ (p : Addr) (w' : How) (d : Bool), x = .ref p ∧ [d0, d1, d2][i]? = some d ∧ Told H p w' tb d := by
        match i, hi with
        | 0, hi => exact ⟨p0, .g, d0, (Option.some.inj hi).symm, rfl, t0⟩
        | 1, hi => exact ⟨p1, .e, d1, (Option.some.inj hi).symm, rfl, t1⟩
        | 2, hi => exact ⟨p2, .h, d2, (Option.some.inj hi).symm, rfl, t2⟩
      obtain ⟨xs, z, hp, hx, hz⟩ := (tp.same s1).head
      refine ⟨rfl, _, rfl, p, xs, 0, _, rfl, rfl, SqT.of hp, atI_nat (j := 0) hx, rfl, _, hD, ?_, fun b o hb => ?_, ?_⟩
      · rw [List.length_map, List.length_take]
        exact small1000 (Nat.le_trans (Nat.min_le_right _ _) (by show 3 ≤ 1000; decide))
      · rw [upd_ne (ne_of_none hb nD)]
        exact s1 _ _ hb
      · rw [upd_same, hz, List.take_add_one, hd, List.map_append] <;> rfl
    rintro H1 ⟨s1, hD⟩
    have hD : H1 D = some (.lst [.bl d0, .bl d1, .bl d2]) := hD
    have hS : SqL K H1 D [.bl d0, .bl d1, .bl d2] := SqL.of hD
    have hl1 := s1 _ _ hl
    -- no word is told of that the next one isn't
    refine ⟨fun σ' H' => σ' = [some (.ref a), some (.ref l), none, some (.ref D), none, none, none] ∧ H' = H1, ?_, ?_⟩
    · refine ⟨_, rfl, D, _, 0, _, rfl, rfl, hS, atI_nat (j := 0) rfl, d0, rfl, ?_⟩
      cases d0 with
      | true =>
        obtain rfl : d1 = true := i01 rfl
        obtain rfl : d2 = true := i12 rfl
        refine iteY rfl ⟨_, rfl, D, _, 1, _, rfl, rfl, hS, atI_nat (j := 1) rfl, true, rfl, iteN rfl ?_⟩
        refine ⟨_, rfl, D, _, 1, _, rfl, rfl, hS, atI_nat (j := 1) rfl, true, rfl, iteY rfl ?_⟩
        exact ⟨_, rfl, D, _, 2, _, rfl, rfl, hS, atI_nat (j := 2) rfl, true, rfl, iteN rfl ⟨rfl, rfl⟩⟩
      | false =>
        refine iteN rfl (iteN rfl ⟨_, rfl, D, _, 1, _, rfl, rfl, hS, atI_nat (j := 1) rfl, d1, rfl, ?_⟩)
        cases d1 with
        | true =>
          obtain rfl : d2 = true := i12 rfl
          exact iteY rfl ⟨_, rfl, D, _, 2, _, rfl, rfl, hS, atI_nat (j := 2) rfl, true, rfl, iteN rfl ⟨rfl, rfl⟩⟩
        | false => exact iteN rfl (iteN rfl ⟨rfl, rfl⟩)
    rintro σ Hx ⟨rfl, rfl⟩
    -- each word and its paper
    refine ⟨(by show 3 ≤ sizeLine; decide), fun z nz => ?_⟩
    have s2 : Same Hx (upd Hx z (.lst [.str "greater", .str "either", .str "honest"])) := same_new nz
    refine ⟨_, rfl, z, l, _, _, rfl, SqL.of upd_same, SqL.of (s2 _ _ hl1), RZ.for_zipL (K := K) (a := z) (b := l) (xs := [.str "greater", .str "either", .str "honest"]) (ys := [.ref p0, .ref p1, .ref p2]) rfl
      (fun i σ H' => ∃ v2 v4 v5 v6, σ = [some (.ref a), some (.ref l), v2, some (.ref D), v4, v5, v6] ∧ Same (upd Hx z (.lst [.str "greater", .str "either", .str "honest"])) H') ⟨none, none, none, none, rfl, Same.refl _⟩
      (fun i σ H' ⟨_, _, _, _, _, e⟩ => ⟨SqL.of (e _ _ upd_same), SqL.of (e _ _ (s2 _ _ hl1))⟩) ?_ ?_⟩
    · rintro i x y t σ H2 hx hy ⟨v2, v4, v5, v6, rfl, s3⟩ nt
      obtain ⟨w', p, d, rfl, rfl, tp⟩ : ∃ (w' : How) (p : Addr) (d : Bool), x = .str w'.txt ∧ y = .ref p ∧ Told H p w' tb d := by
        match i, hx, hy with
        | 0, hx, hy => exact ⟨.g, p0, d0, (Option.some.inj hx).symm, (Option.some.inj hy).symm, t0⟩
        | 1, hx, hy => exact ⟨.e, p1, d1, (Option.some.inj hx).symm, (Option.some.inj hy).symm, t1⟩
        | 2, hx, hy => exact ⟨.h, p2, d2, (Option.some.inj hx).symm, (Option.some.inj hy).symm, t2⟩
      have s4 := same_new (o := .tup [.str w'.txt, .ref p]) nt
      refine ⟨t, [.str w'.txt, .ref p], rfl, SqT.of upd_same, rfl, _, [.ref p], rfl, _, [], rfl, rfl, ?_⟩
      have s5 : Same H (upd H2 t (.tup [.str w'.txt, .ref p])) := s1.trans (s2.trans (s3.trans s4))
      have s6 : Same (upd Hx z (.lst [.str "greater", .str "either", .str "honest"])) (upd H2 t (.tup [.str w'.txt, .ref p])) := s3.trans s4
      generalize upd H2 t (.tup [.str w'.txt, .ref p]) = H3 at s5 s6
      refine ⟨_, rfl, (by show 1 ≤ sizeLine; decide), fun u nu => ?_⟩
      have s7 := same_new (o := .tup [.str "so"]) nu
      have tp2 := tp.same (s5.trans s7)
      obtain ⟨e, de, she, ee⟩ := tp2.data (K := K)
      refine ⟨e, dSo, de, dp_so upd_same, she, sh_so, _, rfl, ?_⟩
      rw [ee]
      rcases tp2 with ⟨hd, _⟩ | ⟨hd, i1, j1, hp, hN⟩
      · rw [hd]
        exact iteN rfl ⟨_, _, _, _, rfl, s6.trans s7⟩
      · rw [hd]
        refine iteY rfl ?_
        obtain ⟨x1, y1, hx1, hy1, hlay⟩ := id hN
        have s8 := s5.trans s7
        have s9 := s6.trans s7
        generalize upd H3 u (.tup [.str "so"]) = H4 at hp s8 s9
        have hW4 := hW.same s8
        have hlen : tb.length = 2 ^ n := by
          obtain ⟨_, _, _, _, w3, _⟩ := hW
          exact w3
        have li : i1 < 2 ^ n := by
          rw [← hlen]
          exact rdb_lt (rdb_of hx1)
        have lj : j1 < 2 ^ n := by
          rw [← hlen]
          exact rdb_lt (rdb_of hy1)
        refine ⟨_, rfl, _, rfl, p, _, 1, _, rfl, rfl, SqT.of hp, atI_nat (j := 1) rfl, a, n, tb, i1, rfl, hW4, li, ?_⟩
        refine ⟨_, rfl, _, rfl, p, _, 2, _, rfl, rfl, SqT.of hp, atI_nat (j := 2) rfl, a, n, tb, j1, rfl, hW4, lj, (by show 2 ≤ sizeLine; decide), fun b nb => ?_⟩
        rw [hx1, hy1]
        have sb := same_new (o := .lst [.int x1, .int y1]) nb
        have hb : (upd H4 b (.lst [.int x1, .int y1])) b = some (.lst [.int x1, .int y1]) := upd_same
        have hp5 := sb _ _ hp
        refine ⟨_, rfl, _, rfl, p, _, 2, _, rfl, rfl, SqT.of hp5, atI_nat (j := 2) rfl, _, rfl, p, _, 1, _, rfl, rfl, SqT.of hp5, atI_nat (j := 1) rfl, (by show 2 ≤ sizeLine; decide), fun c nc => ?_⟩
        have sc := same_new (o := .lst [.int (j1 : Int), .int (i1 : Int)]) nc
        have elor : lor [j1, i1] = i1 ||| j1 := by
          show (0 ||| j1) ||| i1 = _
          rw [Nat.zero_or, Nat.or_comm]
        refine ⟨c, [j1, i1], rfl, SqL.of upd_same, a, n, tb, lor [j1, i1], rfl, hW4.same (sb.trans sc), by rw [elor]; exact Nat.or_lt_two_pow li lj, ?_⟩
        rw [elor]
        have hb6 := sc _ _ hb
        have hp6 := sc _ _ hp5
        refine ⟨_, rfl, _, rfl, _, rfl, a, n, tb, w', p, i1, j1, rfl, hW4.same (sb.trans sc), hp6, hN, fun H7 s10 => ?_⟩
        refine ⟨true, true, rfl, rfl, _, rfl, iteN rfl ?_⟩
        have hb7 := s10 _ _ hb6
        refine ⟨_, rfl, b, _, rfl, .inl (SqL.of hb7), rfl, rfl, _, rfl, iteN rfl ?_⟩
        refine ⟨_, rfl, _, rfl, b, [x1, y1], rfl, SqL.of hb7, (by show (0 : Nat) < 2; decide), fun m hm hle => ⟨scal_vO _ _, _, rfl, iteN ?_ ⟨_, _, _, _, rfl, s9.trans (sb.trans (sc.trans s10))⟩⟩⟩
        rw [vO_int, max_two hm hle]
        exact decide_eq_false (not_max hlay)
    · rintro σ H2 ⟨v2, v4, v5, v6, rfl, s3⟩
      exact q H2 (s1.trans (s2.trans s3))
end
end Nl

/-! The law's look at a list. -/
namespace Nl
open PySem L2
theorem cut2 (xs : List V) : cutV xs none (some 2) = xs.take 2 := by
  unfold cutV
  rw [HT.sIx_none, show HT.sIx xs.length xs.length (some 2) = min 2 xs.length from HT.sIx_nat _ _ 2, List.drop_zero, Nat.sub_zero]
  match xs with
  | [] => rfl
  | [x] => rfl
  | x :: y :: r => rw [show min 2 (x :: y :: r).length = 2 by simp only [List.length_cons]; omega]
theorem flat_ints (zs : List Int) : (zs.map V.int).all flatV = true := by
  rw [List.all_map]
  exact List.all_eq_true.mpr fun _ _ => rfl
theorem inV_mem {m : Int} {zs : List Int} (h : m ∈ zs) : inV (vO (some m)) (zs.map V.int) = true := by
  unfold inV
  exact List.any_eq_true.mpr ⟨.int m, List.mem_map.mpr ⟨m, h, rfl⟩, by rw [eqV_vO]; exact decide_eq_true rfl⟩
section
variable {P : Program} {w : World} {K : PySem.W.Frag} {mg : Str → Option Value} {base : Heap}
abbrev nList : List Str := ["_law_writing", "_law_found", "_law_some", "_law_numbers", "_law_row", "_law_read", "_law_cuts"]
theorem scListRight : FnScope nList ["_law_writing", "_law_found", "_law_some"] (defScope sListRight) := ⟨rfl, rfl, rfl, by decide +kernel, rfl, by decide +kernel, by decide +kernel⟩
theorem ok_listRight {f fR fL : Addr} {fd fdR fdL : FuncData} (F : Fun K "_law_list_right" "_law_list_right" sListRight f fd) (T : Txt mg) (DR : Def K mg "reading" sReading ["writing", "cuts"] fR fdR)
    (DL : Def K mg "laid" sLaid ["some"] fL fdL) : FnOk P w K mg base CX0 2 f fd ["_law_writing", "_law_found", "_law_some"] (spListRight K) := by
  have GR : FnOk P w K mg base CX0 1 fR fdR ["writing", "cuts"] (spReading K) := ok_reading DR.fn
  have GL : FnOk P w K mg base CX0 1 fL fdL ["some"] (spLaid K) := ok_laid DL.fn
  refine F.ok scListRight (fun vs H Q E h => ?_) (fun cdv A outer s H vs Q E hr h => ?_)
  · obtain ⟨a, n, tb, l, p0, p1, p2, sm, cs, rfl, _⟩ := h
    rfl
  · obtain ⟨a, n, tb, l, p0, p1, p2, sm, cs, rfl, hW, hl, f0, f1, f2, hsm, hne, hlen, hcs, q⟩ := h
    obtain ⟨d0, t0⟩ := f0.told
    obtain ⟨d1, t1⟩ := f1.told
    obtain ⟨d2, t2⟩ := f2.told
    have htb : tb.length = 2 ^ n := by
      obtain ⟨_, _, _, _, w3, _⟩ := hW
      exact w3
    have hlt : ∀ c ∈ cs, c < 2 ^ n := fun c hc => by
      rw [← htb]
      exact rdb_lt (hcs c hc)
    refine ⟨_,
      pss_cons (ps_setLc (i := 3) (own := [("_law_cuts", 6)]) (g := gName 6) (tt := tYes) (by rfl) scListRight.nd rfl rfl (sw_true rfl rfl rfl (by decide +kernel))
          (pi_list (pv 2))
          (blkOk_by (own := [("_law_cuts", 6)]) (N := nList) (sc := defScope sListRight) (by decide +kernel))
          (fun _ _ _ _ _ => pg_name (i := 6) scListRight.nd rfl (Or.inl rfl))
          (fun _ _ _ _ _ => pts_nil)
          (fun _ _ _ _ _ => pe_call GR hr (by rfl) DR.mg DR.fn.kp DR.bd .nil pass0 (pa_cons (pv 0) (pa_cons (pv 6) pa_nil)))) <|
      pss_cons (ps_for PassesOwn.never rfl (pi_list (pe_lst (pa_cons (pv 2) (pa_cons (pe_revL (pv 2)) pa_nil)))) (pg_name (i := 4) scListRight.nd rfl (.inl rfl))
        (pss_cons (ps_set (i := 5) scListRight.nd rfl (.inl rfl) (pe_call GR hr (by rfl) DR.mg DR.fn.kp DR.bd .nil pass0 (pa_cons (pv 0) (pa_cons (pe_call GL hr (by rfl) DL.mg DL.fn.kp DL.bd .nil pass0 (pa_cons (pv 4) pa_nil)) pa_nil)))) <|
          Evl.pss_cut (ps_if (PW.pt (pw_and (pt_cmpR (op_eqD hr.units) (pe_ix ix_list (pv 1) pe_int (fun _ _ => rfl)) (pe_tup (pa_cons pe_str pa_nil)) (nomark _))
            (pw_and1 (pt_cmpR op_ne (pv 5) (pe_callB (cr_max rfl) (by rfl) T.max (by decide +kernel) (pa_cons (pv 3) pa_nil)) (nomark _))))) (pss_one (ps_ret pe_bl)) pss_nil) <|
          pss_one (ps_if (PW.pt (pw_and (pt_cmpR (op_eqD hr.units) (pe_ix ix_list (pv 1) pe_int (fun _ _ => rfl)) (pe_tup (pa_cons pe_str pa_nil)) (nomark _))
            (pw_and1 (pt_cmpR op_notIn_seq (pv 5) (pv 3) (by rfl))))) (pss_one (ps_ret pe_bl)) pss_nil))) <|
      pss_cons (ps_set (i := 5) scListRight.nd rfl (.inl rfl) (pe_call GR hr (by rfl) DR.mg DR.fn.kp DR.bd .nil pass0 (pa_cons (pv 0) (pa_cons (pe_call GL hr (by rfl) DL.mg DL.fn.kp DL.bd .nil pass0 (pa_cons (pe_slice sl_list (pv 2) po_none (po_some pe_int)) pa_nil)) pa_nil)))) <|
      pss_one (ps_ret (pe_or (pe_cmpR (op_neD hr.units) (pe_ix ix_list (pv 1) pe_int (fun _ _ => rfl)) (pe_tup (pa_cons pe_str pa_nil)) (nomark _))
        (pe_or (pe_cmpR op_isN (pv 5) pe_non (nomark _)) (pe_one (pe_cmpR op_in_seq (pv 5) (pe_slice sl_list (pv 3) po_none (po_some pe_int)) (by rfl)))))), ?_⟩
    -- numbers
    refine ⟨_, rfl, sm, rfl, ⟨_, SqL.of hsm⟩, fun nu nnu => ?_⟩
    refine lc_list (K := K) (a := sm) (xs := nums cs) (fun i H' => Same H H' ∧ H' nu = some (.lst (((cs.take i).map (num tb)).map V.int)))
      ⟨same_new nnu, upd_same⟩ (fun i H' _ h => SqL.of (h.1 _ _ hsm)) ?_ ?_
    · rintro i x H1 hi ⟨s1, hN⟩
      obtain ⟨c, hc, rfl⟩ := nums_get hi
      have hcm : c ∈ cs := List.mem_of_getElem? hc
      refine ⟨rfl, _, rfl, _, rfl, a, n, tb, c, rfl, hW.same s1, hlt c hcm, _, hN, ?_, fun b o hb => ?_, ?_⟩
      · rw [List.length_map, List.length_map, List.length_take]
        exact small1000 (by omega)
      · rw [upd_ne (ne_of_none hb nnu)]
        exact s1 _ _ hb
      · rw [upd_same, rd_num (hcs c hcm), List.take_add_one, hc, List.map_append, List.map_append] <;> rfl
    rintro H1 ⟨s1, hN⟩
    rw [nums_len, List.take_length] at hN
    have hpos : 0 < (cs.map (num tb)).length := by
      rw [List.length_map]
      exact List.length_pos_iff.mpr hne
    -- the two rows
    refine ⟨_, rfl, _, rfl, sm, _, rfl, SqL.of (s1 _ _ hsm), fun rv nrv => ⟨(by show 2 ≤ sizeLine; decide), fun rl nrl => ?_⟩⟩
    have s2 := same_new (o := .lst (nums cs).reverse) nrv
    have hrv : (upd H1 rv (.lst (nums cs).reverse)) rv = some (.lst (nums cs.reverse)) := by
      rw [upd_same]
      unfold nums
      rw [List.map_reverse]
    have s3 := same_new (o := .lst [.ref sm, .ref rv]) nrl
    have hrl : (upd (upd H1 rv (.lst (nums cs).reverse)) rl (.lst [.ref sm, .ref rv])) rl = some (.lst [.ref sm, .ref rv]) := upd_same
    have hrv2 := s3 _ _ hrv
    have s4 : Same H1 (upd (upd H1 rv (.lst (nums cs).reverse)) rl (.lst [.ref sm, .ref rv])) := s2.trans s3
    generalize upd (upd H1 rv (.lst (nums cs).reverse)) rl (.lst [.ref sm, .ref rv]) = H2 at hrl hrv2 s4
    have sH : Same H H2 := s1.trans s4
    have hN2 := s4 _ _ hN
    refine ⟨rl, rfl, ⟨_, SqL.of hrl⟩, for_list (K := K) (a := rl) (xs := [.ref sm, .ref rv]) (fun i σ H' => ∃ v4 v5, σ = [some (.ref a), some (.ref l), some (.ref sm), some (.ref nu), v4, v5, none] ∧ Same H2 H')
      ⟨none, none, rfl, Same.refl _⟩ (fun i σ H' _ ⟨_, _, _, e⟩ => SqL.of (e _ _ hrl)) ?_ ?_⟩
    · rintro i x σ H3 hi ⟨v4, v5, rfl, s5⟩
      obtain ⟨r, cs', rfl, hrow, hmem, hne', hrd'⟩ : ∃ (r : Addr) (cs' : List Nat), x = .ref r ∧ H2 r = some (.lst (nums cs')) ∧ (∀ z, z ∈ cs'.map (num tb) ↔ z ∈ cs.map (num tb)) ∧ cs' ≠ [] ∧ ∀ c ∈ cs', Rdb tb c := by
        match i, hi with
        | 0, hi => exact ⟨sm, cs, (Option.some.inj hi).symm, sH _ _ hsm, fun z => Iff.rfl, hne, hcs⟩
        | 1, hi => exact ⟨rv, cs.reverse, (Option.some.inj hi).symm, hrv2, fun z => by rw [List.map_reverse, List.mem_reverse], fun e => hne (List.reverse_eq_nil_iff.mp e), fun c hc => hcs c (List.mem_reverse.mp hc)⟩
      have hlt' : ∀ c ∈ cs', c < 2 ^ n := fun c hc => by
        rw [← htb]
        exact rdb_lt (hrd' c hc)
      have sH3 := sH.trans s5
      refine ⟨_, rfl, _, rfl, r, cs', rfl, SqL.of (s5 _ _ hrow), a, n, tb, lor cs', rfl, hW.same sH3, lor_lt hlt', ?_⟩
      refine ⟨fun σ' H' => σ' = [some (.ref a), some (.ref l), some (.ref sm), some (.ref nu), some (.ref r), some (vO (rd tb (lor cs'))), none] ∧ Same H2 H', ?_, ?_⟩
      · -- the greatest
        refine ⟨_, rfl, l, _, 0, _, rfl, rfl, SqL.of (sH3 _ _ hl), atI_nat (j := 0) rfl, (by show 1 ≤ sizeLine; decide), fun u nu' => ?_⟩
        have s6 := same_new (o := .tup [.str "so"]) nu'
        have tp := t0.same (sH3.trans s6)
        obtain ⟨e, de, she, ee⟩ := tp.data (K := K)
        refine ⟨e, dSo, de, dp_so upd_same, she, sh_so, _, rfl, ?_⟩
        rw [ee]
        cases hd : d0 with
        | false => exact iteN rfl (iteN rfl ⟨rfl, s5.trans s6⟩)
        | true =>
          refine iteY rfl ⟨_, rfl, _, rfl, nu, _, rfl, SqL.of (s6 _ _ (s5 _ _ hN2)), hpos, fun m hm hle => ⟨scal_vO _ _, _, rfl, iteN ?_ ⟨rfl, s5.trans s6⟩⟩⟩
          rw [vO_int, many_g (t0.all hd) hne' hrd' ((hmem m).mpr hm) fun y hy => hle y ((hmem y).mp hy), decide_eq_true rfl] <;> rfl
      · rintro σ H4 ⟨rfl, s6⟩
        -- one of theirs
        have sH4 := sH.trans s6
        refine ⟨_, rfl, l, _, 1, _, rfl, rfl, SqL.of (sH4 _ _ hl), atI_nat (j := 1) rfl, (by show 1 ≤ sizeLine; decide), fun u nu' => ?_⟩
        have s7 := same_new (o := .tup [.str "so"]) nu'
        have tp := t1.same (sH4.trans s7)
        obtain ⟨e, de, she, ee⟩ := tp.data (K := K)
        refine ⟨e, dSo, de, dp_so upd_same, she, sh_so, _, rfl, ?_⟩
        rw [ee]
        cases hd : d1 with
        | false => exact iteN rfl (iteN rfl ⟨_, _, rfl, s6.trans s7⟩)
        | true =>
          obtain ⟨m, hm1, hm2⟩ := many_e (t1.all hd) hne' hrd'
          refine iteY rfl ⟨_, rfl, _, rfl, nu, _, rfl, .inl (SqL.of (s7 _ _ (s6 _ _ hN2))), flat_vO _, flat_ints _, _, rfl, iteN ?_ ⟨_, _, rfl, s6.trans s7⟩⟩
          show (!inV (vO (rd tb (lor cs'))) ((cs.map (num tb)).map V.int)) = false
          rw [hm1, inV_mem ((hmem m).mp hm2)] <;> rfl
    · rintro σ H3 ⟨v4, v5, rfl, s5⟩
      -- two of them
      have sH3 := sH.trans s5
      refine ⟨_, rfl, _, rfl, 2, rfl, sm, _, rfl, SqL.of (sH3 _ _ hsm), fun c nc => ?_⟩
      have s6 := same_new (o := .lst (cutV (nums cs) none (some 2))) nc
      have hc : (upd H3 c (.lst (cutV (nums cs) none (some 2)))) c = some (.lst (nums (cs.take 2))) := by
        rw [upd_same, cut2]
        unfold nums
        rw [List.map_take]
      generalize upd H3 c (.lst (cutV (nums cs) none (some 2))) = H4 at s6 hc
      have sH4 := sH3.trans s6
      refine ⟨c, cs.take 2, rfl, SqL.of hc, a, n, tb, lor (cs.take 2), rfl, hW.same sH4, lor_lt fun d hd => hlt d (List.mem_of_mem_take hd), ?_⟩
      refine ⟨_, rfl, l, _, 2, _, rfl, rfl, SqL.of (sH4 _ _ hl), atI_nat (j := 2) rfl, (by show 1 ≤ sizeLine; decide), fun u nu' => ?_⟩
      have s7 := same_new (o := .tup [.str "so"]) nu'
      have tp := t2.same (sH4.trans s7)
      obtain ⟨e, de, she, ee⟩ := tp.data (K := K)
      refine ⟨e, dSo, de, dp_so upd_same, she, sh_so, _, rfl, ?_⟩
      have sH5 := sH4.trans s7
      rw [ee]
      cases hd : d2 with
      | false => exact iteY rfl (q _ sH5)
      | true =>
        refine iteN rfl ⟨_, rfl, rfl, _, rfl, ?_⟩
        rcases two_h (t2.all hd) hne hcs with er | ⟨m, er, hm⟩
        · rw [er]
          exact iteY rfl (q _ sH5)
        · rw [er]
          refine iteN rfl ⟨_, rfl, _, rfl, 2, rfl, nu, _, rfl, SqL.of (s7 _ _ (s6 _ _ (s5 _ _ hN2))), fun p np => ?_⟩
          have s8 := same_new (o := .lst (cutV ((cs.map (num tb)).map V.int) none (some 2))) np
          refine ⟨p, ((cs.map (num tb)).take 2).map V.int, rfl, .inl (SqL.of ?_), rfl, flat_ints _, ?_⟩
          · rw [upd_same, cut2, List.map_take]
          · exact blT (inV_mem hm) (q _ (sH5.trans s8))
end
end Nl

/-! The law. -/
namespace Nl
open PySem L2
theorem Same.bar {H H1 H2 : Hp} {s : Addr} (x : Same H H1) (n : H s = none) (b : Bar s H1 H2) : Same H H2 := fun c o h => b c o (ne_of_none h n) (x c o h)
theorem Found.put {H : Hp} {p D : Addr} {w : How} {tb : List (Option Int)} {xs ys : List V} (h : Found H p w tb) (hD : H D = some (.lst xs)) : Found (upd H D (.lst ys)) p w tb := by
  rcases h with ⟨h1, h2⟩ | ⟨a, b, h1, h2⟩
  · exact .inl ⟨by rw [upd_ne (ne_of h1 hD (by intro q; cases q))]; exact h1, h2⟩
  · exact .inr ⟨a, b, by rw [upd_ne (ne_of h1 hD (by intro q; cases q))]; exact h1, h2⟩
abbrev hows : List How := [.g, .e, .h]
/-- the first papers, each by its word -/
def Papers (H : Hp) (ps : List Addr) (tb : List (Option Int)) : Prop := ∀ (j : Nat) (p : Addr) (w : How), ps[j]? = some p → hows[j]? = some w → Found H p w tb
theorem papers_snoc {H : Hp} {ps : List Addr} {tb : List (Option Int)} {p : Addr} {w : How} (h : Papers H ps tb) (hw : hows[ps.length]? = some w) (hp : Found H p w tb) : Papers H (ps ++ [p]) tb := by
  intro j q w' hq hw'
  rcases Nat.lt_or_ge j ps.length with c | c
  · rw [List.getElem?_append_left c] at hq
    exact h j q w' hq hw'
  · rw [List.getElem?_append_right c] at hq
    rcases Nat.eq_or_lt_of_le c with e | e
    · subst e
      rw [Nat.sub_self] at hq
      cases hq
      rw [hw] at hw'
      cases hw'
      exact hp
    · have e2 : ([p] : List Addr)[j - ps.length]? = none := List.getElem?_eq_none (by rw [List.length_singleton]; omega)
      rw [e2] at hq
      cases hq
/-- a list of numbers as data -/
def dK (cs : List Nat) : PyData := .list (cs.map fun (c : Nat) => PyData.int (c : Int))
theorem dp_all {K : PySem.W.Frag} {H : Hp} : ∀ cs : List Nat, DpAll K H (nums cs) (cs.map fun (c : Nat) => PyData.int (c : Int))
  | [] => .nil
  | c :: r => .cons (.int _) (dp_all r)
theorem dp_nums {K : PySem.W.Frag} {H : Hp} {a : Addr} {cs : List Nat} (h : SqL K H a (nums cs)) : Dp K H (.ref a) (dK cs) := .lst h (dp_all cs)
theorem lay_all : ∀ cs : List Nat, PyData.canLayAll0 (cs.map fun (c : Nat) => PyData.int (c : Int)) = true ∧ PyData.depthAll (cs.map fun (c : Nat) => PyData.int (c : Int)) = 0
  | [] => ⟨rfl, rfl⟩
  | c :: r => by
    obtain ⟨h1, h2⟩ := lay_all r
    constructor
    · rw [List.map_cons, PyData.canLayAll0, h1] <;> rfl
    · rw [List.map_cons, PyData.depthAll, h2] <;> rfl
theorem sh_nums (cs : List Nat) : SeqAt.shaped (dK cs) = true := by
  obtain ⟨h1, h2⟩ := lay_all cs
  unfold SeqAt.shaped dK
  rw [PyData.canLay0, PyData.depth, h1, h2] <;> rfl
theorem turns {L : Int} (h0 : 0 ≤ L) (h1 : L ≤ 63) : 0 ≤ (if (if L < 60 then L else 60) > 20 then (if L < 60 then L else 60) else 20) ∧ (if (if L < 60 then L else 60) > 20 then (if L < 60 then L else 60) else 20) ≤ 63 := by
  split <;> split <;> omega
theorem turnsN {M : Int} {e : Bool} (h0 : 0 ≤ M) (h1 : M ≤ 63) : 0 ≤ M * (if e = true then 1 else 0) ∧ M * (if e = true then 1 else 0) ≤ 63 ∧ (e = false → (M * (if e = true then 1 else 0)).toNat = 0) := by
  cases e with
  | true =>
    rw [if_pos rfl, Int.mul_one]
    exact ⟨h0, h1, fun z => nomatch z⟩
  | false =>
    rw [if_neg Bool.false_ne_true, Int.mul_zero]
    exact ⟨by decide, by decide, fun _ => rfl⟩

/-- the defs of the text -/
structure AllD (K : PySem.W.Frag) (mg : Str → Option Value) : Prop where
  isInt : ∃ f fd, Def K mg "is_int" sIsInt ["thing", "least", "most"] f fd
  isCuts : ∃ f fd, Def K mg "is_cuts" sIsCuts ["n", "thing"] f fd
  allCuts : ∃ f fd, Def K mg "all_cuts" sAllCuts ["n"] f fd
  together : ∃ f fd, Def K mg "together" sTogether ["one", "other"] f fd
  laid : ∃ f fd, Def K mg "laid" sLaid ["some"] f fd
  spotsIn : ∃ f fd, Def K mg "spots_in" sSpotsIn ["writing"] f fd
  made : ∃ f fd, Def K mg "made_writing" sMade ["n", "k", "table"] f fd
  reading : ∃ f fd, Def K mg "reading" sReading ["writing", "cuts"] f fd
  readable : ∃ f fd, Def K mg "readable" sReadable ["writing"] f fd
  lays : ∃ f fd, Def K mg "lays" sLays ["writing", "how", "one", "other"] f fd
  laying : ∃ f fd, Def K mg "laying" sLaying ["writing", "how"] f fd
  readsNumber : ∃ f fd, Def K mg "reads_number" sReadsNumber ["writing", "thing"] f fd
  rightNot : ∃ f fd, Def K mg "right_not" sRightNot ["writing", "how", "paper"] f fd
  stream : ∃ f fd, Def K mg "_law_stream" sStream ["_law_script", "_law_k"] f fd
  take : ∃ f fd, Def K mg "_law_take" sTake ["_law_stream_here", "_law_most"] f fd
  worths : ∃ f fd, Def K mg "_law_worths" sWorths ["_law_stream_here", "_law_n", "_law_k"] f fd
  table : ∃ f fd, Def K mg "_law_table" sTable ["_law_stream_here", "_law_n", "_law_k"] f fd
  drawn : ∃ f fd, Def K mg "_law_drawn" sDrawn ["_law_stream_here"] f fd
  wordsRight : ∃ f fd, Def K mg "_law_words_right" sWordsRight ["_law_writing", "_law_found"] f fd
  listRight : ∃ f fd, Def K mg "_law_list_right" sListRight ["_law_writing", "_law_found", "_law_some"] f fd
section
variable {P : Program} {w : World} {K : PySem.W.Frag} {mg : Str → Option Value} {base : Heap}
abbrev nLaw : List Str := ["_law_script", "_law_stream_here", "_law_case", "_law_writing", "_law_found", "_law_known", "_law_k", "_law_own", "_law_some", "_law_how", "_law_cuts", "_law_turn"]
theorem scLaw : FnScope nLaw ["_law_script"] (defScope sLaw) := ⟨rfl, rfl, rfl, by decide +kernel, rfl, by decide +kernel, by decide +kernel⟩
theorem ok_law {f : Addr} {fd : FuncData} (F : Fun K "law" "law" sLaw f fd) (T : Txt mg) (D : AllD K mg) : FnOk P w K mg base CX0 6 f fd ["_law_script"] (spLaw K) := by
  obtain ⟨fI, dI, DI⟩ := D.isInt
  obtain ⟨fC, dC, DC⟩ := D.isCuts
  obtain ⟨fA, dA, DA⟩ := D.allCuts
  obtain ⟨fG, dG, DG⟩ := D.together
  obtain ⟨fL, dL, DL⟩ := D.laid
  obtain ⟨fS, dS, DS⟩ := D.spotsIn
  obtain ⟨fM, dM, DM⟩ := D.made
  obtain ⟨fR, dR, DR⟩ := D.reading
  obtain ⟨fD, dD, DD⟩ := D.readable
  obtain ⟨fY, dY, DY⟩ := D.lays
  obtain ⟨fZ, dZ, DZ⟩ := D.laying
  obtain ⟨fN, dN, DN⟩ := D.readsNumber
  obtain ⟨fX, dX, DX⟩ := D.rightNot
  obtain ⟨f1, d1, D1⟩ := D.stream
  obtain ⟨f2, d2, D2⟩ := D.take
  obtain ⟨f3, d3, D3⟩ := D.worths
  obtain ⟨f4, d4, D4⟩ := D.table
  obtain ⟨f5, d5, D5⟩ := D.drawn
  obtain ⟨f6, d6, D6⟩ := D.wordsRight
  obtain ⟨f7, d7, D7⟩ := D.listRight
  have GC : FnOk P w K mg base CX0 2 fC dC ["n", "thing"] spIsCuts := ok_isCuts DC.fn T DI
  have GM : FnOk P w K mg base CX0 2 fM dM ["n", "k", "table"] spMade := ok_made DM.fn T DI
  have GD : FnOk P w K mg base CX0 2 fD dD ["writing"] (spReadable K) := ok_readable DD.fn T DA
  have GY : FnOk P w K mg base CX0 2 fY dY ["writing", "how", "one", "other"] (spLays K) := ok_lays DY.fn T DR DG
  have GZ : FnOk P w K mg base CX0 3 fZ dZ ["writing", "how"] (spLaying K) := ok_laying DZ.fn T GD DD GY DY
  have GN : FnOk P w K mg base CX0 3 fN dN ["writing", "thing"] (spReadsNumber K) := ok_readsNumber DN.fn GC DC DS DR
  have GX : FnOk P w K mg base CX0 4 fX dX ["writing", "how", "paper"] (spRightNot K) := ok_rightNot DX.fn T GN DN GY DY
  have G1 : FnOk P w K mg base CX0 1 f1 d1 ["_law_script", "_law_k"] (spStream K) := ok_stream D1.fn T
  have G2 : FnOk P w K mg base CX0 1 f2 d2 ["_law_stream_here", "_law_most"] spTake := ok_take D2.fn
  have G4 : FnOk P w K mg base CX0 3 f4 d4 ["_law_stream_here", "_law_n", "_law_k"] spTable := ok_table D4.fn T D2 D3
  have G5 : FnOk P w K mg base CX0 4 f5 d5 ["_law_stream_here"] spDrawn := ok_drawn D5.fn T D2 G4 D4
  have G6 : FnOk P w K mg base CX0 5 f6 d6 ["_law_writing", "_law_found"] (spWordsRight K) := ok_wordsRight D6.fn T DR DL GX DX
  have G7 : FnOk P w K mg base CX0 2 f7 d7 ["_law_writing", "_law_found", "_law_some"] (spListRight K) := ok_listRight D7.fn T DR DL
  refine F.ok scLaw (fun vs H Q E h => ?_) (fun cdv A outer s0 H vs Q E hr h => ?_)
  · obtain ⟨a, ns, rfl, _⟩ := h
    rfl
  · obtain ⟨a, ns, rfl, hS, hlen, q⟩ := h
    have hr1 := hr.mono (show 1 ≤ 5 by decide)
    have hr2 := hr.mono (show 2 ≤ 5 by decide)
    have hr3 := hr.mono (show 3 ≤ 5 by decide)
    have hr4 := hr.mono (show 4 ≤ 5 by decide)
    refine ⟨_,
      pss_cons (ps_set (i := 1) scLaw.nd rfl (.inl rfl) (pe_call G1 hr1 (by rfl) D1.mg D1.fn.kp D1.bd .nil pass0 (pa_cons (pv 0) (pa_cons pe_int pa_nil)))) <|
      pss_cons (ps_set (i := 2) scLaw.nd rfl (.inr rfl) (pe_call G5 hr4 (by rfl) D5.mg D5.fn.kp D5.bd .nil pass0 (pa_cons (pv 1) pa_nil))) <|
      pss_cons (ps_set (i := 3) scLaw.nd rfl (.inr rfl) (pe_call GM hr2 (by rfl) DM.mg DM.fn.kp DM.bd .nil pass0 (pa_cons (pe_ix ix_tup (pv 2) pe_int (fun _ _ => rfl)) (pa_cons (pe_ix ix_tup (pv 2) pe_int (fun _ _ => rfl)) (pa_cons (pe_ix ix_tup (pv 2) pe_int (fun _ _ => rfl)) pa_nil))))) <|
      pss_cons (ps_setLc (i := 4) (own := [("_law_how", 9)]) (g := gName 9) (tt := tYes) (by rfl) scLaw.nd rfl rfl (sw_true rfl rfl rfl (by decide +kernel))
          (pi_list (pe_lst (pa_cons pe_str (pa_cons pe_str (pa_cons pe_str pa_nil)))))
          (blkOk_by (own := [("_law_how", 9)]) (N := nLaw) (sc := defScope sLaw) (by decide +kernel))
          (fun _ _ _ _ _ => pg_name (i := 9) scLaw.nd rfl (Or.inl rfl))
          (fun _ _ _ _ _ => pts_nil)
          (fun _ _ _ _ _ => pe_call GZ hr3 (by rfl) DZ.mg DZ.fn.kp DZ.bd .nil pass0 (pa_cons (pv 3) (pa_cons (pv 9) pa_nil)))) <|
      pss_cons (ps_if (pt_not (pt_val (pe_call G6 hr (by rfl) D6.mg D6.fn.kp D6.bd .nil pass0 (pa_cons (pv 3) (pa_cons (pv 4) pa_nil))))) (pss_one (ps_ret pe_bl)) pss_nil) <|
      pss_cons (ps_set (i := 5) scLaw.nd rfl (.inr rfl) (pe_lc (own := [("_law_cuts", 10)]) (g := gName 10) (by rfl) scLaw.nd
          (pi_range1 (by rfl) T.range (pa_cons (pe_callB call_len_seq (by rfl) T.len PySem.boot_len (pa_cons (pe_ix ix_tup (pv 2) pe_int (fun _ _ => rfl)) pa_nil)) pa_nil))
          (blkOk_by (own := [("_law_cuts", 10)]) (N := nLaw) (sc := defScope sLaw) (by decide +kernel))
          (fun _ _ _ _ _ => pg_name (i := 10) scLaw.nd rfl (Or.inl rfl))
          (fun _ _ _ _ _ => pts_one (pt_cmpR op_notN (pe_ix (ix_tupK (K := K) rfl) (pe_ix (ix_tupK (K := K) rfl) (pv 2) pe_int (fun _ _ => rfl)) (pv 10) (fun _ _ => rfl)) pe_non (nomark _)))
          (fun _ _ _ _ _ => pv 10))) <|
      pss_cons (ps_for PassesOwn.never rfl (pi_range1 (by rfl) T.range (pa_cons (pe_op op_mul
            (pe_callB (call_max2 rfl) (by rfl) T.max (by decide +kernel) (pa_cons pe_int (pa_cons (pe_callB (call_min2 rfl) (by rfl) T.min (by decide +kernel) (pa_cons pe_int (pa_cons (pe_callB call_len_seq (by rfl) T.len PySem.boot_len (pa_cons (pv 0) pa_nil)) pa_nil))) pa_nil)))
            (pe_callTy call_int1 (by rfl) T.int (by decide +kernel) (pa_cons (pe_cmpR (op_neD hr.units) (pv 5) (pe_lst pa_nil) (nomark _)) pa_nil))) pa_nil)) (pg_name (i := 6) scLaw.nd rfl (.inl rfl))
        (pss_cons (ps_set (i := 7) scLaw.nd rfl (.inr rfl) (pe_call G1 hr1 (by rfl) D1.mg D1.fn.kp D1.bd .nil pass0 (pa_cons (pv 0) (pa_cons (pv 6) pa_nil)))) <|
          pss_cons (ps_setLc (i := 8) (own := [("_law_turn", 11)]) (g := gName 11) (tt := tYes) (by rfl) scLaw.nd rfl rfl (sw_true rfl rfl rfl (by decide +kernel))
              (pi_range1 (by rfl) T.range (pa_cons (pe_op op_add pe_int (pe_call G2 hr1 (by rfl) D2.mg D2.fn.kp D2.bd .nil pass0 (pa_cons (pv 7) (pa_cons pe_int pa_nil)))) pa_nil))
              (blkOk_by (own := [("_law_turn", 11)]) (N := nLaw) (sc := defScope sLaw) (by decide +kernel))
              (fun _ _ _ _ _ => pg_name (i := 11) scLaw.nd rfl (Or.inl rfl))
              (fun _ _ _ _ _ => pts_nil)
              (fun _ _ _ _ _ => pe_ix (ix_listK (K := K) rfl) (pv 5) (pe_call G2 hr1 (by rfl) D2.mg D2.fn.kp D2.bd .nil pass0 (pa_cons (pv 7) (pa_cons (pe_callB (call_lenK (K := K) rfl) (by rfl) T.len PySem.boot_len (pa_cons (pv 5) pa_nil)) pa_nil))) (fun _ _ => rfl))) <|
          pss_one (ps_if (pt_not (pt_val (pe_call G7 hr2 (by rfl) D7.mg D7.fn.kp D7.bd .nil pass0 (pa_cons (pv 3) (pa_cons (pv 4) (pa_cons (pv 8) pa_nil)))))) (pss_one (ps_ret pe_bl)) pss_nil))) <|
      pss_one (ps_ret pe_bl), ?_⟩
    -- the stream, the case, the writing
    refine ⟨_, rfl, a, ns, 0, rfl, hS, hlen, by omega, by omega, fun sr H1 s1 nsr hst => ?_⟩
    refine ⟨_, rfl, sr, rfl, hst, fun pc t n k tb H2 b2 hpc ht hl n1 n8 k2 k100 hx => ?_⟩
    have s2 := Same.bar s1 nsr b2
    have hC := SqT.of (K := K) hpc
    refine ⟨_, rfl, pc, _, 0, _, rfl, rfl, hC, atI_nat (j := 0) rfl, _, rfl, pc, _, 1, _, rfl, rfl, hC, atI_nat (j := 1) rfl, _, rfl, pc, _, 2, _, rfl, rfl, hC, atI_nat (j := 2) rfl, n, k, t, tb, rfl, ht, hl, n1, n8, k2, k100, hx, fun pw H3 s3 npw hpw => ?_⟩
    have hW : Wr K H3 pw n tb := ⟨k, t, SqT.of hpw, SqT.of (s3 _ _ ht), hl, n1, n8⟩
    have p8 := pow8 n8
    -- what laying tells of each word
    refine ⟨(by show 3 ≤ sizeLine; decide), fun z nz => ?_⟩
    have s4 := same_new (o := .lst [.str "greater", .str "either", .str "honest"]) nz
    refine ⟨z, rfl, ⟨_, SqL.of upd_same⟩, fun fo nfo => ?_⟩
    refine lc_list (K := K) (a := z) (xs := [.str "greater", .str "either", .str "honest"]) (fun i H' => Same (upd H3 z (.lst [.str "greater", .str "either", .str "honest"])) H' ∧ ∃ ps : List Addr, H' fo = some (.lst (ps.map V.ref)) ∧ ps.length = i ∧ Papers H' ps tb)
      ⟨same_new nfo, [], upd_same, rfl, fun j p w hj => nomatch hj⟩ (fun i H' _ h => SqL.of (h.1 _ _ upd_same)) ?_ ?_
    · rintro i x H4 hi ⟨s5, ps, hfo, hps, hpp⟩
      obtain ⟨w', rfl, hw'⟩ : ∃ w' : How, x = .str w'.txt ∧ hows[i]? = some w' := by
        match i, hi with
        | 0, hi => exact ⟨.g, (Option.some.inj hi).symm, rfl⟩
        | 1, hi => exact ⟨.e, (Option.some.inj hi).symm, rfl⟩
        | 2, hi => exact ⟨.h, (Option.some.inj hi).symm, rfl⟩
      have i3 : i < 3 := (List.getElem?_eq_some_iff.mp hi).1
      refine ⟨rfl, _, rfl, _, rfl, pw, n, tb, w', rfl, hW.same (s4.trans s5), fun p H5 s6 np hf => ?_⟩
      have hfo5 := s6 _ _ hfo
      refine ⟨_, hfo5, ?_, Same.mut (s5.trans s6) nfo, ps ++ [p], ?_, ?_, papers_snoc (fun j p w hj hw => (Found.same (hpp j p w hj hw) s6).put hfo5) (by rw [hps]; exact hw') (hf.put hfo5)⟩
      · rw [List.length_map]
        exact small1000 (by omega)
      · rw [upd_same, List.map_append] <;> rfl
      · rw [List.length_append, hps] <;> rfl
    rintro H4 ⟨s5, ps, hfo, hps, hpp⟩
    obtain ⟨p0, p1, p2, rfl⟩ : ∃ p0 p1 p2, ps = [p0, p1, p2] := by
      match ps, hps with
      | [p0, p1, p2], _ => exact ⟨p0, p1, p2, rfl⟩
    have hfo : H4 fo = some (.lst [.ref p0, .ref p1, .ref p2]) := hfo
    have f0 : Found H4 p0 .g tb := hpp 0 p0 .g rfl rfl
    have f1' : Found H4 p1 .e tb := hpp 1 p1 .e rfl rfl
    have f2' : Found H4 p2 .h tb := hpp 2 p2 .h rfl rfl
    have s6 : Same H2 H4 := s3.trans (s4.trans s5)
    have hW4 := hW.same (s4.trans s5)
    -- the words are right
    refine ⟨_, rfl, _, rfl, pw, n, tb, fo, p0, p1, p2, rfl, hW4, hfo, f0, f1', f2', fun H5 s7 => ⟨true, rfl, iteN rfl ?_⟩⟩
    have s8 : Same H2 H5 := s6.trans s7
    have sH5 : Same H H5 := s2.trans s8
    have hpc5 := s8 _ _ hpc
    have ht5 := s8 _ _ ht
    have hW5 := hW4.same s7
    -- the known cuts
    refine ⟨_, rfl, pc, _, 2, _, rfl, rfl, SqT.of hpc5, atI_nat (j := 2) rfl, t, _, rfl, .inr (SqT.of ht5), _, rfl, ?_, ?_, fun kn nkn => ?_⟩
    · omega
    · rw [List.length_map, hl]
      omega
    have en : (((tb.map vO).length : Nat) : Int).toNat = tb.length := by rw [List.length_map, Int.toNat_natCast]
    rw [en]
    refine lc_range (lo := 0) (n := tb.length) (fun i H' => Same H5 H' ∧ H' kn = some (.lst (nums ((List.range i).filter fun c => (rd tb c).isSome)))) ⟨same_new nkn, upd_same⟩ ?_ ?_
    · rintro c H6 hc ⟨s9, hkn⟩
      have e0 : (0 : Int) + (c : Int) = (c : Int) := by omega
      rw [e0]
      refine ⟨rfl, _, rfl, pc, _, 2, _, rfl, rfl, SqT.of (s9 _ _ hpc5), atI_nat (j := 2) rfl, _, rfl, t, _, (c : Int), _, rfl, rfl, SqT.of (s9 _ _ ht5), atI_nat (getO hc), rfl, _, rfl, ?_⟩
      have e := vO_non (rd tb c)
      by_cases hs : (rd tb c).isSome = true
      · refine iteY (e.trans hs) ⟨_, rfl, _, hkn, ?_, fun b o hb => ?_, ?_⟩
        · rw [nums_len]
          have l1 := List.length_filter_le (fun c => (rd tb c).isSome) (List.range c)
          rw [List.length_range] at l1
          exact small1000 (by omega)
        · rw [upd_ne (ne_of_none hb nkn)]
          exact s9 _ _ hb
        · rw [upd_same, filt_succ, if_pos hs]
          unfold nums
          rw [List.map_append] <;> rfl
      · refine iteN (e.trans (Bool.eq_false_iff.mpr hs)) ⟨s9, ?_⟩
        rw [filt_succ, if_neg hs, List.append_nil]
        exact hkn
    rintro H6 ⟨s9, hkn⟩
    have hkn : H6 kn = some (.lst (nums (rds tb))) := hkn
    have sH6 : Same H H6 := sH5.trans s9
    -- how many turns
    have L0 : (0 : Int) ≤ (((ns.map V.int).length : Nat) : Int) := by omega
    have L1 : (((ns.map V.int).length : Nat) : Int) ≤ 63 := by rw [List.length_map]; omega
    obtain ⟨M0, M1⟩ := turns L0 L1
    refine ⟨_, rfl, a, _, rfl, .inl (sH6.seq hS), 60, _, rfl, 20, _, rfl, _, rfl, Nat.zero_le _, fun em nem => ?_⟩
    have s10 := same_new (o := .lst []) nem
    have hkn7 := s10 _ _ hkn
    refine ⟨dK (rds tb), dK [], dp_nums (SqL.of hkn7), dp_nums (SqL.of upd_same), sh_nums _, sh_nums _, .inr ⟨_, rfl, _, _, rfl, rfl, .inl ⟨by omega, by omega⟩, ?_⟩⟩
    obtain ⟨N0, N1, N2⟩ := turnsN (e := !PyData.eqv (dK (rds tb)) (dK [])) M0 M1
    refine ⟨_, rfl, by omega, by omega, ?_⟩
    generalize hcnt : (if (if (((ns.map V.int).length : Nat) : Int) < 60 then (((ns.map V.int).length : Nat) : Int) else 60) > 20 then (if (((ns.map V.int).length : Nat) : Int) < 60 then (((ns.map V.int).length : Nat) : Int) else 60) else 20) * (if (!PyData.eqv (dK (rds tb)) (dK [])) = true then 1 else 0) = cnt at N0 N1 N2 ⊢
    have sH7 : Same H (upd H6 em (.lst [])) := sH6.trans s10
    have s57 : Same H5 (upd H6 em (.lst [])) := s9.trans s10
    generalize upd H6 em (.lst []) = H7 at hkn7 sH7 s57
    have hW7 := hW5.same s57
    have hfo7 := s57 _ _ (s7 _ _ hfo)
    have f07 := (f0.same s7).same s57
    have f17 := (f1'.same s7).same s57
    have f27 := (f2'.same s7).same s57
    refine for_range (lo := 0) (n := cnt.toNat) (fun i σ H' => ∃ v6 v7 v8, σ = [some (.ref a), some (.ref sr), some (.ref pc), some (.ref pw), some (.ref fo), some (.ref kn), v6, v7, v8, none, none, none] ∧ Same H7 H')
      ⟨none, none, none, rfl, Same.refl _⟩ ?_ ?_
    · rintro i σ H8 hi ⟨v6, v7, v8, rfl, s11⟩
      have hne : rds tb ≠ [] := fun e => by
        have z := N2 (by rw [e]; decide +kernel)
        omega
      have hkpos : 0 < (rds tb).length := List.length_pos_iff.mpr hne
      have hk256 : (rds tb).length ≤ 256 := by
        have := rds_len tb
        omega
      refine ⟨_, rfl, _, rfl, a, ns, 0 + (i : Int), rfl, s11.seq (sH7.seq hS), hlen, by omega, by omega, fun ow H9 s12 now hst9 => ?_⟩
      refine ⟨_, rfl, ow, 9, rfl, hst9, by omega, by omega, fun r c m r0 r1 => ⟨1, r, rfl, rfl, _, rfl, by omega, by omega, fun so nso => ?_⟩⟩
      have s13 : Same H8 (upd H9 ow (.lst [.int c, .int m])) := Same.mut s12 now
      have st13 : Strm (upd H9 ow (.lst [.int c, .int m])) ow := ⟨c, m, upd_same⟩
      have nso8 : H8 so = none := s13.free nso
      have nos : so ≠ ow := st13.ne nso
      refine lc_range (lo := 0) (n := (1 + r).toNat) (fun j H' => ∃ ds : List Nat, Same H8 H' ∧ Strm H' ow ∧ H' so = some (.lst (nums ds)) ∧ ds.length = j ∧ ∀ d ∈ ds, Rdb tb d)
        ⟨[], s13.trans (same_new nso), st13.put nos, upd_same, rfl, fun d hd => nomatch hd⟩ ?_ ?_
      · rintro j Hj hj ⟨ds, s14, stj, hso, lds, hds⟩
        have hknj := s14 _ _ (s11 _ _ hkn7)
        refine ⟨rfl, _, rfl, _, rfl, _, rfl, kn, _, rfl, .inl (SqL.of hknj), ow, _, rfl, stj, ?_, ?_, fun y c' m' y0 y1 => ?_⟩
        · rw [nums_len]
          omega
        · rw [nums_len]
          omega
        · rw [nums_len] at y1
          have hy : y.toNat < (rds tb).length := by omega
          have nk : kn ≠ ow := fun e => by
            have z := s11 _ _ hkn7
            rw [e, now] at z
            cases z
          refine ⟨kn, nums (rds tb), y, .int (((rds tb)[y.toNat] : Nat) : Int), rfl, rfl, SqL.of (by rw [upd_ne nk]; exact hknj), at_of (j := y.toNat) (by omega) ?_, nums ds, by rw [upd_ne nos]; exact hso, ?_, ds ++ [(rds tb)[y.toNat]], Same.mut (Same.mut s14 now) nso8, ?_, ?_, ?_, fun d hd => ?_⟩
          · unfold nums
            rw [List.getElem?_map, List.getElem?_eq_getElem hy] <;> rfl
          · rw [nums_len]
            exact small1000 (by omega)
          · exact Strm.put ⟨c', m', upd_same⟩ nos
          · rw [upd_same]
            unfold nums
            rw [List.map_append] <;> rfl
          · rw [List.length_append, lds] <;> rfl
          · rcases List.mem_append.mp hd with z | z
            · exact hds d z
            · rw [List.mem_singleton.mp z]
              exact mem_rds.mp (List.getElem_mem hy)
      · rintro Hj ⟨ds, s14, stj, hso, lds, hds⟩
        have s15 := s11.trans s14
        refine ⟨_, rfl, _, rfl, _, rfl, pw, n, tb, fo, p0, p1, p2, so, ds, rfl, hW7.same s15, s15 _ _ hfo7, f07.same s15, f17.same s15, f27.same s15, hso, fun e => ?_, by omega, hds, fun Hz s16 => ⟨true, rfl, iteN rfl ⟨_, _, _, rfl, s15.trans s16⟩⟩⟩
        rw [e] at lds
        have z : (0 : Nat) = (1 + r).toNat := lds
        omega
    · rintro σ H8 ⟨v6, v7, v8, rfl, s11⟩
      exact q H8
end
end Nl

/-! What the top has left; the law's own head. -/
namespace Nl
open PySem L2
/-- a def as the top has left it -/
structure Left (K : PySem.W.Frag) (x : Str) (st : Stmt) (f : Addr) : Prop where
  a : PySem.W.nsIn K mainGlobals x = some (some (.ref f))
  l : ∃ (oc : Value) (od : Option Addr) (kV doc pm : Value) (an : Option Addr) (cdv ct : Value) (osl : Array (Option Value)),
    K.lookup f = some ⟨oc, od, .func (PySem.W.fnOf x x (defArgs st) (defBody st) (defScope st) .none kV doc pm an cdv ct), osl⟩ ∧ PySem.W.codeIn K cdv x = true
  k : PySem.W.keepIn K (.ref f) = true
theorem left_mk {K : PySem.W.Frag} {x : Str} {st : Stmt} {f : Addr} {oc : Value} {od an : Option Addr} {osl : Array (Option Value)} {kV doc pm cdv ct : Value} (a : PySem.W.nsIn K mainGlobals x = some (some (.ref f)))
    (l : K.lookup f = some ⟨oc, od, .func (PySem.W.fnOf x x (defArgs st) (defBody st) (defScope st) .none kV doc pm an cdv ct), osl⟩) (c : PySem.W.codeIn K cdv x = true) (k : PySem.W.keepIn K (.ref f) = true) : Left K x st f :=
  ⟨a, ⟨oc, od, kV, doc, pm, an, cdv, ct, osl, l, c⟩, k⟩
theorem def_of {K : PySem.W.Frag} {h : Heap} {mg : Str → Option Value} (X : K.In h) (G : h.Ns mainGlobals mg) {x : Str} {st : Stmt} {ps : List Str} {f : Addr} (L : Left K x st f)
    (hb : ∀ (kV doc pm : Value) (an : Option Addr) (cdv ct : Value) (us : List Value), us.length = ps.length → bindArgs (PySem.W.fnOf x x (defArgs st) (defBody st) (defScope st) .none kV doc pm an cdv ct) ⟨us, []⟩ = pure (ps.zip us)) :
    ∃ f fd, Def K mg x st ps f fd := by
  obtain ⟨oc, od, kV, doc, pm, an, cdv, ct, osl, l, c⟩ := L.l
  have F := fun_mk (st := st) l c L.k
  exact ⟨f, _, F, F.binds hb, PySem.W.mg_of X G L.a⟩
theorem all_mk {l : PySem.W.OpenLaw} {w : World} {K : PySem.W.Frag} {h : Heap} {mg : Str → Option Value} {fa fL : Addr} (X : K.In h) (G : h.Ns mainGlobals mg) (hfa : mg "law" = some (.ref fa))
    {f0 f1 f2 f3 f4 f5 f6 f7 f8 f9 f10 f11 f12 f13 f14 f15 f16 f17 f18 f19 : Addr} {t0 t1 t2 t3 t4 t5 t6 : Tok}
    (L0 : Left K "is_int" sIsInt f0)
    (L1 : Left K "is_cuts" sIsCuts f1)
    (L2 : Left K "all_cuts" sAllCuts f2)
    (L3 : Left K "together" sTogether f3)
    (L4 : Left K "laid" sLaid f4)
    (L5 : Left K "spots_in" sSpotsIn f5)
    (L6 : Left K "made_writing" sMade f6)
    (L7 : Left K "reading" sReading f7)
    (L8 : Left K "readable" sReadable f8)
    (L9 : Left K "lays" sLays f9)
    (L10 : Left K "laying" sLaying f10)
    (L11 : Left K "reads_number" sReadsNumber f11)
    (L12 : Left K "right_not" sRightNot f12)
    (L13 : Left K "_law_stream" sStream f13)
    (L14 : Left K "_law_take" sTake f14)
    (L15 : Left K "_law_worths" sWorths f15)
    (L16 : Left K "_law_table" sTable f16)
    (L17 : Left K "_law_drawn" sDrawn f17)
    (L18 : Left K "_law_words_right" sWordsRight f18)
    (L19 : Left K "_law_list_right" sListRight f19)
    (LL : Left K "law" sLaw fL)
    (z0 : PySem.W.nsIn K mainGlobals "isinstance" = some none)
    (z1 : PySem.W.nsIn K mainGlobals "int" = some none)
    (z2 : PySem.W.nsIn K mainGlobals "bool" = some none)
    (z3 : PySem.W.nsIn K mainGlobals "list" = some none)
    (z4 : PySem.W.nsIn K mainGlobals "range" = some none)
    (z5 : PySem.W.nsIn K mainGlobals "tuple" = some none)
    (z6 : PySem.W.nsIn K mainGlobals "len" = some none)
    (z7 : PySem.W.nsIn K mainGlobals "max" = some none)
    (z8 : PySem.W.nsIn K mainGlobals "min" = some none)
    (z9 : PySem.W.nsIn K mainGlobals "abs" = some none)
    (z10 : PySem.W.nsIn K mainGlobals "zip" = some none)
    (c0 : PySem.W.nsIn K mainGlobals "MOST_SPOTS" = some (some (.int 8 t0)))
    (c1 : PySem.W.nsIn K mainGlobals "FEWEST_NUMBERS" = some (some (.int 2 t1)))
    (c2 : PySem.W.nsIn K mainGlobals "MOST_NUMBERS" = some (some (.int 100 t2)))
    (c3 : PySem.W.nsIn K mainGlobals "GREATER" = some (some (.str "greater" t3)))
    (c4 : PySem.W.nsIn K mainGlobals "EITHER" = some (some (.str "either" t4)))
    (c5 : PySem.W.nsIn K mainGlobals "SO" = some (some (.str "so" t5)))
    (c6 : PySem.W.nsIn K mainGlobals "NOT" = some (some (.str "not" t6))) :
    ∃ fd : FuncData, (∀ (s : Shared) (v : Value), BindsTo s fd ⟨[v], []⟩ [("_law_script", v)]) ∧ ∀ base : Heap, K.In base → base.Ns mainGlobals mg → FnOk l.prog w K mg base CX0 6 fa fd ["_law_script"] (spLaw K) := by
  have e := hfa.symm.trans (PySem.W.mg_of X G LL.a)
  cases e
  obtain ⟨oc, od, kV, doc, pm, an, cdv, ct, osl, lk, hc⟩ := LL.l
  have F := fun_mk (st := sLaw) lk hc LL.k
  have T : Txt mg := ⟨PySem.W.mg_none_of X G z0, PySem.W.mg_none_of X G z1, PySem.W.mg_none_of X G z2, PySem.W.mg_none_of X G z3, PySem.W.mg_none_of X G z4, PySem.W.mg_none_of X G z5, PySem.W.mg_none_of X G z6, PySem.W.mg_none_of X G z7, PySem.W.mg_none_of X G z8, PySem.W.mg_none_of X G z9, PySem.W.mg_none_of X G z10, ⟨_, PySem.W.mg_of X G c0⟩, ⟨_, PySem.W.mg_of X G c1⟩, ⟨_, PySem.W.mg_of X G c2⟩, ⟨_, PySem.W.mg_of X G c3⟩, ⟨_, PySem.W.mg_of X G c4⟩, ⟨_, PySem.W.mg_of X G c5⟩, ⟨_, PySem.W.mg_of X G c6⟩⟩
  have D : AllD K mg := ⟨def_of X G L0 (fun _ _ _ _ _ _ us hl => match us, hl with | [_, _, _], _ => rfl),
    def_of X G L1 (fun _ _ _ _ _ _ us hl => match us, hl with | [_, _], _ => rfl),
    def_of X G L2 (fun _ _ _ _ _ _ us hl => match us, hl with | [_], _ => rfl),
    def_of X G L3 (fun _ _ _ _ _ _ us hl => match us, hl with | [_, _], _ => rfl),
    def_of X G L4 (fun _ _ _ _ _ _ us hl => match us, hl with | [_], _ => rfl),
    def_of X G L5 (fun _ _ _ _ _ _ us hl => match us, hl with | [_], _ => rfl),
    def_of X G L6 (fun _ _ _ _ _ _ us hl => match us, hl with | [_, _, _], _ => rfl),
    def_of X G L7 (fun _ _ _ _ _ _ us hl => match us, hl with | [_, _], _ => rfl),
    def_of X G L8 (fun _ _ _ _ _ _ us hl => match us, hl with | [_], _ => rfl),
    def_of X G L9 (fun _ _ _ _ _ _ us hl => match us, hl with | [_, _, _, _], _ => rfl),
    def_of X G L10 (fun _ _ _ _ _ _ us hl => match us, hl with | [_, _], _ => rfl),
    def_of X G L11 (fun _ _ _ _ _ _ us hl => match us, hl with | [_, _], _ => rfl),
    def_of X G L12 (fun _ _ _ _ _ _ us hl => match us, hl with | [_, _, _], _ => rfl),
    def_of X G L13 (fun _ _ _ _ _ _ us hl => match us, hl with | [_, _], _ => rfl),
    def_of X G L14 (fun _ _ _ _ _ _ us hl => match us, hl with | [_, _], _ => rfl),
    def_of X G L15 (fun _ _ _ _ _ _ us hl => match us, hl with | [_, _, _], _ => rfl),
    def_of X G L16 (fun _ _ _ _ _ _ us hl => match us, hl with | [_, _, _], _ => rfl),
    def_of X G L17 (fun _ _ _ _ _ _ us hl => match us, hl with | [_], _ => rfl),
    def_of X G L18 (fun _ _ _ _ _ _ us hl => match us, hl with | [_, _], _ => rfl),
    def_of X G L19 (fun _ _ _ _ _ _ us hl => match us, hl with | [_, _, _], _ => rfl)⟩
  exact ⟨PySem.W.fnOf "law" "law" (defArgs sLaw) (defBody sLaw) (defScope sLaw) .none kV doc pm an cdv ct, fun s v => .of_eq rfl, fun base _ _ => ok_law F T D⟩
end Nl
open PySem PySem.W PyProof.Rows
set_option maxRecDepth 100000 in
set_option maxHeartbeats 0 in
theorem PySem.Challenge.cw_notchledger_k63_whole_many_laid_in_any_o_holds : PySem.Challenge.rw_notchledger_k63_whole_many_laid_in_any_o.Holds := by
  w_on; o_law; k_head; (case hw => w_witness2)
  k_fill
  refine L2.walk_of (l := PySem.Challenge.rw_notchledger_k63_whole_many_laid_in_any_o) (n := 63) (k := 6) (x := "_law_script") (CX := fun _ => L2.CX0) (sp := fun w => Nl.spLaw _) rfl (by decide) rfl ⟨rfl, by decide, by decide⟩ (fun w h Y => PySem.W.kIn_of Y) ?F (fun _ _ a ns hl _ hS => ⟨a, ns, rfl, hS, hl, fun _ => rfl⟩) (fun _ _ _ _ _ h => h)
  case F =>
    intro w mg fa h KX G hmg
    refine' Nl.all_mk KX G hmg ?L0 ?L1 ?L2 ?L3 ?L4 ?L5 ?L6 ?L7 ?L8 ?L9 ?L10 ?L11 ?L12 ?L13 ?L14 ?L15 ?L16 ?L17 ?L18 ?L19 ?LL ?z0 ?z1 ?z2 ?z3 ?z4 ?z5 ?z6 ?z7 ?z8 ?z9 ?z10 ?c0 ?c1 ?c2 ?c3 ?c4 ?c5 ?c6
    (case L0 => (refine' Nl.left_mk ?a ?l ?c ?k; (case a => k_is); (case l => k_is); (case c => k_is); (case k => k_is)))
    (case L1 => (refine' Nl.left_mk ?a ?l ?c ?k; (case a => k_is); (case l => k_is); (case c => k_is); (case k => k_is)))
    (case L2 => (refine' Nl.left_mk ?a ?l ?c ?k; (case a => k_is); (case l => k_is); (case c => k_is); (case k => k_is)))
    (case L3 => (refine' Nl.left_mk ?a ?l ?c ?k; (case a => k_is); (case l => k_is); (case c => k_is); (case k => k_is)))
    (case L4 => (refine' Nl.left_mk ?a ?l ?c ?k; (case a => k_is); (case l => k_is); (case c => k_is); (case k => k_is)))
    (case L5 => (refine' Nl.left_mk ?a ?l ?c ?k; (case a => k_is); (case l => k_is); (case c => k_is); (case k => k_is)))
    (case L6 => (refine' Nl.left_mk ?a ?l ?c ?k; (case a => k_is); (case l => k_is); (case c => k_is); (case k => k_is)))
    (case L7 => (refine' Nl.left_mk ?a ?l ?c ?k; (case a => k_is); (case l => k_is); (case c => k_is); (case k => k_is)))
    (case L8 => (refine' Nl.left_mk ?a ?l ?c ?k; (case a => k_is); (case l => k_is); (case c => k_is); (case k => k_is)))
    (case L9 => (refine' Nl.left_mk ?a ?l ?c ?k; (case a => k_is); (case l => k_is); (case c => k_is); (case k => k_is)))
    (case L10 => (refine' Nl.left_mk ?a ?l ?c ?k; (case a => k_is); (case l => k_is); (case c => k_is); (case k => k_is)))
    (case L11 => (refine' Nl.left_mk ?a ?l ?c ?k; (case a => k_is); (case l => k_is); (case c => k_is); (case k => k_is)))
    (case L12 => (refine' Nl.left_mk ?a ?l ?c ?k; (case a => k_is); (case l => k_is); (case c => k_is); (case k => k_is)))
    (case L13 => (refine' Nl.left_mk ?a ?l ?c ?k; (case a => k_is); (case l => k_is); (case c => k_is); (case k => k_is)))
    (case L14 => (refine' Nl.left_mk ?a ?l ?c ?k; (case a => k_is); (case l => k_is); (case c => k_is); (case k => k_is)))
    (case L15 => (refine' Nl.left_mk ?a ?l ?c ?k; (case a => k_is); (case l => k_is); (case c => k_is); (case k => k_is)))
    (case L16 => (refine' Nl.left_mk ?a ?l ?c ?k; (case a => k_is); (case l => k_is); (case c => k_is); (case k => k_is)))
    (case L17 => (refine' Nl.left_mk ?a ?l ?c ?k; (case a => k_is); (case l => k_is); (case c => k_is); (case k => k_is)))
    (case L18 => (refine' Nl.left_mk ?a ?l ?c ?k; (case a => k_is); (case l => k_is); (case c => k_is); (case k => k_is)))
    (case L19 => (refine' Nl.left_mk ?a ?l ?c ?k; (case a => k_is); (case l => k_is); (case c => k_is); (case k => k_is)))
    (case LL => (refine' Nl.left_mk ?a ?l ?c ?k; (case a => k_is); (case l => k_is); (case c => k_is); (case k => k_is)))
    (case z0 => k_is)
    (case z1 => k_is)
    (case z2 => k_is)
    (case z3 => k_is)
    (case z4 => k_is)
    (case z5 => k_is)
    (case z6 => k_is)
    (case z7 => k_is)
    (case z8 => k_is)
    (case z9 => k_is)
    (case z10 => k_is)
    (case c0 => k_is)
    (case c1 => k_is)
    (case c2 => k_is)
    (case c3 => k_is)
    (case c4 => k_is)
    (case c5 => k_is)
    (case c6 => k_is)
