/- DERIVED. Contracts: all shards, rows of shards, what bears; copies. No statement of the program is proved here. -/
import Derived.Test.YtliggcjjkdklhaaGreatX06
set_option linter.unusedSimpArgs false
set_option linter.unusedVariables false
set_option linter.unusedSectionVars false
namespace Go.Proofs.YtliggcjjkdklhaaGreat.Am
def hasL (m : List (List Int)) (v : List Int) : Bool := ((addL (tidL m) v).length : Int) == ((tidL m).length : Int)
def FFhas : Model := fun args h =>
  match args, h with
  | [.c (.view _ (.ivs .i64 m) n 1 _), .c (.view _ (.ints .i64 v) n2 1 _)], [] =>
    some (.c (.bool (hasL m v)), [], [decide (m.length ≤ 274877906944), tidOk m, decide (v.length ≤ 274877906944), decide ((tidL m).length ≤ 1000), tdOk v.length (tidL m), allFok v])
  | _, _ => none
theorem m132 : ModelN Tryz.prog 132 FFhas := by
  intro args h res h' o hnorm he ho
  unfold FFhas at he
  split at he
  case h_2 => cases he
  rename_i nl m n cap nl2 v n2 cap2
  simp only [Option.some.injEq, Prod.mk.injEq] at he
  obtain ⟨rfl, rfl, rfl⟩ := he
  simp only [List.mem_cons, List.not_mem_nil, or_false, forall_eq_or_imp, forall_eq, decide_eq_true_eq] at ho
  obtain ⟨o1, o2, o3, o4, o5, o6⟩ := ho
  simp only [normA, AV.norm, normL, Cell.norm, Con.size, List.cons.injEq, AV.c.injEq, AV.agg.injEq, Cell.view.injEq, nlen_one, true_and, and_true] at hnorm
  obtain ⟨⟨rfl, rfl, rfl⟩, rfl, rfl, rfl⟩ := hnorm
  exact meets_of t49 (by kernel_rfl) (by kernel_rfl) (x132_1 m v) (by simp [o1, o2, o3, o4, o5, o6]) (by simp) (fun cc _ => LcOk.nil)
theorem rowL_len {k a : Int} (hk : bet k 1 2 = true) (ha : bet a 0 7 = true) : (rowL k a).length = 4 := by
  refine of16 (q := fun k a => (rowL k a).length = 4) (fun i hi => ?_) hk ha
  have all : allK (fun k => decide ((rowL ((k / 8 : Nat) + 1 : Int) (k % 8 : Nat)).length = 4)) 16 = true := by kernel_rfl
  simpa using allK_spec all i hi
def cdL (k : Int) (v : List Int) : List Int := [dotL (rowL k 0) v, dotL (rowL k 1) v, dotL (rowL k 2) v, dotL (rowL k 3) v, dotL (rowL k 4) v, dotL (rowL k 5) v, dotL (rowL k 6) v, dotL (rowL k 7) v]
theorem l62 (k : Int) (v : List Int) (hk : bet k 1 2 = true) (hv : v.length = 4) (hf : allFok v = true) :
    Good Tryz.prog 0 (.block 0 (.loop (bodyAt 0 (codeOf f62)))) (I62 k v 0 [] 0) fun e t => e = .normal ∧ t = X62 8 (cdL k v) := by
  refine (Good.count hT t49 hmix (m := 0) (id := 0) (body := bodyAt 0 (codeOf f62)) 8 (fun i o => o.length = i) (fun i o => I62 k v o.length o i) (fun o => X62 o.length o) (fun i o => o ++ [dotL (rowL k (i : Int)) v]) (liveH f62 0) (liveB' f62 0)
    (fun _ _ => []) (fun _ _ _ _ => LcOk.nil) (fun i o hi h => ⟨by simp [h], ?_⟩) (fun o h => ⟨_, _, ⟨_, _, r62_2 k v o.length o (8 : Nat), rfl, by simp⟩⟩)) [] rfl
  have e := r62_1 k v o.length o i
  rw [wrap_small (by omega) (by omega)] at e
  have hb : bet (i : Int) 0 7 = true := bet_iff.2 ⟨by omega, by omega⟩
  have hl := rowL_len hk hb
  rw [List.length_append]
  refine ⟨_, _, ⟨_, _, e, ?_, by simp⟩⟩
  simp only [hk, hb, hf, rowL_fok hk hb, bS]
  omega
theorem x62_1 (k : Int) (v : List Int) : evalF tt (ctOf T49) ([(0, ⟨liveH f62 0, I62 k v 0 [] 0, .normal, X62 8 (cdL k v)⟩)]) 100 f62 [.c (.int .i64 k), .c (.view none (.ints .i64 v) v.length 1 none)] [] [] =
    some ⟨.c (.sl 0 0 8 1 none), [.live (.ints .i64 (cdL k v))], true, [I62 k v 0 [] 0 = I62 k v 0 [] 0]⟩ := by kernel_rfl
def FFall : Model := fun args h =>
  match args, h with
  | [.c (.int .i64 k), .c (.view _ (.ints .i64 v) n 1 _)], [] =>
    some (.c (.sl 0 0 8 1 none), [.live (.ints .i64 (cdL k v))], [bet k 1 2, decide (v.length = 4), allFok v])
  | _, _ => none
theorem m62 : ModelN Tryz.prog 62 FFall := by
  intro args h res h' o hnorm he ho
  unfold FFall at he
  split at he
  case h_2 => cases he
  rename_i k nl v n cap
  simp only [Option.some.injEq, Prod.mk.injEq] at he
  obtain ⟨rfl, rfl, rfl⟩ := he
  simp only [List.mem_cons, List.not_mem_nil, or_false, forall_eq_or_imp, forall_eq, decide_eq_true_eq] at ho
  obtain ⟨o1, o2, o3⟩ := ho
  simp only [normA, AV.norm, normL, Cell.norm, Con.size, List.cons.injEq, AV.c.injEq, AV.agg.injEq, Cell.view.injEq, nlen_one, true_and, and_true] at hnorm
  obtain ⟨rfl, rfl, rfl⟩ := hnorm
  exact meets_of t49 (fn := f62) (by kernel_rfl) (by kernel_rfl) (x62_1 k v) (by simp) (by simp) (fun cc hcc => LcOk.cons (c := cc) (by cases hcc; kernel_rfl) (by cases hcc; exact l62 k v o1 o2 o3) LcOk.nil)
def rwS (k : Int) (c : List Bool) (i : Nat) (o : List (List Int)) : List (List Int) := bif c.getD i false then o ++ [rowL k i] else o
def rwL (k : Int) (c : List Bool) : List (List Int) := runN (rwS k c) 8 0 []
theorem l135 (k : Int) (c : List Bool) (hk : bet k 1 2 = true) (hc : c.length = 8) :
    Good Tryz.prog 0 (.block 0 (.loop (bodyAt 0 (codeOf f135)))) (I135 k c 0 [] 0) fun e t => e = .normal ∧ t = X135 (rwL k c).length (rwL k c) := by
  refine (Good.count hT t49 hmix (m := 0) (id := 0) (body := bodyAt 0 (codeOf f135)) 8 (fun i o => o.length ≤ i) (fun i o => I135 k c o.length o i) (fun o => X135 o.length o) (rwS k c) (liveH f135 0) (liveB' f135 0)
    (fun _ _ => []) (fun _ _ _ _ => LcOk.nil) (fun i o hi h => ?_) (fun o h => ⟨_, _, ⟨_, _, r135_3 k c o.length o (8 : Nat), rfl, by simp⟩⟩)) [] (by simp)
  have hb : bet (i : Int) 0 7 = true := bet_iff.2 ⟨by omega, by omega⟩
  unfold rwS
  cases hq : c.getD i false with
  | true =>
    refine ⟨by simp; omega, ?_⟩
    have e := r135_1 k c o.length o i
    rw [wrap_small (by omega) (by omega), Int.toNat_natCast] at e
    rw [cond_true, List.length_append]
    refine ⟨_, _, ⟨_, _, e, ?_, by simp⟩⟩
    simp only [hk, hb, hq, bS]
    omega
  | false =>
    refine ⟨by rw [cond_false]; omega, ?_⟩
    have e := r135_2 k c o.length o i
    rw [wrap_small (by omega) (by omega), Int.toNat_natCast] at e
    rw [cond_false]
    refine ⟨_, _, ⟨_, _, e, ?_, by simp⟩⟩
    simp only [hq, bS]
    omega
theorem x135_1 (k : Int) (c : List Bool) : evalF tt (ctOf T49) ([(0, ⟨liveH f135 0, I135 k c 0 [] 0, .normal, X135 (rwL k c).length (rwL k c)⟩)]) 100 f135 [.c (.int .i64 k), .c (.view none (.bools c) c.length 1 none)] [] [] =
    some ⟨.c (.sl 0 0 (rwL k c).length 1 none), [.live (.ivs .i64 (rwL k c))], true, [I135 k c 0 [] 0 = I135 k c 0 [] 0]⟩ := by kernel_rfl
def FFrw : Model := fun args h =>
  match args, h with
  | [.c (.int .i64 k), .c (.view _ (.bools c) n 1 _)], [] =>
    some (.c (.view none (.ivs .i64 (rwL k c)) (rwL k c).length 1 none), [], [bet k 1 2, decide (c.length = 8)])
  | _, _ => none
theorem m135 : ModelN Tryz.prog 135 FFrw := by
  intro args h res h' o hnorm he ho
  unfold FFrw at he
  split at he
  case h_2 => cases he
  rename_i k nl c n cap
  simp only [Option.some.injEq, Prod.mk.injEq] at he
  obtain ⟨rfl, rfl, rfl⟩ := he
  simp only [List.mem_cons, List.not_mem_nil, or_false, forall_eq_or_imp, forall_eq, decide_eq_true_eq] at ho
  obtain ⟨o1, o2⟩ := ho
  simp only [normA, AV.norm, normL, Cell.norm, Con.size, List.cons.injEq, AV.c.injEq, AV.agg.injEq, Cell.view.injEq, nlen_one, true_and, and_true] at hnorm
  obtain ⟨rfl, rfl, rfl⟩ := hnorm
  exact (meets_of (f := 135) t49 (fn := f135) (by kernel_rfl) (by kernel_rfl) (x135_1 k c) (by simp) (by simp) (fun cc hcc => LcOk.cons (c := cc) (by cases hcc; kernel_rfl) (by cases hcc; exact l135 k c o1 o2) LcOk.nil)).views
    (o := [decide ((rwL k c).length = (rwL k c).length)]) rfl (by simp)
theorem x101_1 (k : Int) (a b : List Int) (c : List Bool) : evalF tt (ctOf T49) ([]) 100 Tryz.f101 [.agg [.int .i64 k, .view none (.ints .i64 a) a.length 1 none, .view none (.ints .i64 b) b.length 1 none, .view none (.bools c) c.length 1 none]] [] [] =
    some ⟨.agg [.int .i64 k, .sl 0 0 (0 + a.length) 1 none, .sl 1 0 (0 + b.length) 1 none, .sl 2 0 (0 + c.length) 1 none], [.live (.ints .i64 ([] ++ a)), .live (.ints .i64 ([] ++ b)), .live (.bools ([] ++ c))], (decide (0 + a.length ≤ 274877906944) && (decide (0 + b.length ≤ 274877906944) && ((decide (0 + c.length ≤ 274877906944)) && true))), []⟩ := by kernel_rfl
def FFcopy : Model := fun args h =>
  match args, h with
  | [.agg [.int .i64 k, .view _ (.ints .i64 a) n1 1 _, .view _ (.ints .i64 b) n2 1 _, .view _ (.bools c) n3 1 _]], [] =>
    some (.agg [.int .i64 k, .sl 0 0 a.length 1 none, .sl 1 0 b.length 1 none, .sl 2 0 c.length 1 none], [.live (.ints .i64 a), .live (.ints .i64 b), .live (.bools c)], [decide (a.length ≤ 274877906944), decide (b.length ≤ 274877906944), decide (c.length ≤ 274877906944)])
  | _, _ => none
theorem m101 : ModelN Tryz.prog 101 FFcopy := by
  intro args h res h' o hnorm he ho
  unfold FFcopy at he
  split at he
  case h_2 => cases he
  rename_i k nl1 a n1 cap1 nl2 b n2 cap2 nl3 c n3 cap3
  simp only [Option.some.injEq, Prod.mk.injEq] at he
  obtain ⟨rfl, rfl, rfl⟩ := he
  simp only [List.mem_cons, List.not_mem_nil, or_false, forall_eq_or_imp, forall_eq, decide_eq_true_eq] at ho
  obtain ⟨o1, o2, o3⟩ := ho
  simp only [normA, AV.norm, normL, Cell.norm, Con.size, List.cons.injEq, AV.c.injEq, AV.agg.injEq, Cell.view.injEq, nlen_one, true_and, and_true] at hnorm
  obtain ⟨⟨rfl, rfl, rfl⟩, ⟨rfl, rfl, rfl⟩, rfl, rfl, rfl⟩ := hnorm
  have e := x101_1 k a b c
  simp only [Nat.zero_add] at e
  exact meets_of t49 (by kernel_rfl) (by kernel_rfl) e (by simp [o1, o2, o3]) (by simp) (fun cc _ => LcOk.nil)
noncomputable def T50 : List Entry := [⟨132, [], nm FFhas⟩, ⟨62, [], nm FFall⟩, ⟨135, [], nm FFrw⟩, ⟨101, [], nm FFcopy⟩] ++ T49
theorem e50 : EntriesOk Tryz.prog T50 := by
  refine EntriesOk.append ?_ e49
  intro e he
  simp only [List.mem_cons, List.not_mem_nil, or_false] at he
  rcases he with rfl | rfl | rfl | rfl
  · exact m132.ok
  · exact m62.ok
  · exact m135.ok
  · exact m101.ok
theorem t50 : CtOk Tryz.prog (ctOf T50) := ctOf_ok e50
theorem x106_1 (k : Int) (c : List Bool) : evalF tt (ctOf T50) ([]) 100 Tryz.f106 [.c (.int .i64 k), .c (.view none (.bools c) c.length 1 none)] [] [(0, true), (0, true)] =
    some ⟨.c (.bool (bif bif bet k 1 2 then (↑c.length : Int) == 8 else false then (↑(tidL (rwL k c)).length : Int) == 4 else false)), [], (bet k 1 2 && (bet k 1 2 && (bet k 1 2 && ((bif bet k 1 2 then (↑c.length : Int) == 8 else false) && ((bif bet k 1 2 then (↑c.length : Int) == 8 else false) && ((bif bet k 1 2 then (↑c.length : Int) == 8 else false) && (bet k 1 2 && (decide (c.length = 8) && ((bif bet k 1 2 then (↑c.length : Int) == 8 else false) && (decide ((rwL k c).length ≤ 274877906944) && (tidOk (rwL k c) && ((bif bet k 1 2 then (↑c.length : Int) == 8 else false) && ((bif bet k 1 2 then (↑c.length : Int) == 8 else false) && true))))))))))))), []⟩ := by kernel_rfl
theorem x106_2 (k : Int) (c : List Bool) : evalF tt (ctOf T50) ([]) 100 Tryz.f106 [.c (.int .i64 k), .c (.view none (.bools c) c.length 1 none)] [] [(0, true), (0, false)] =
    some ⟨.c (.bool false), [], (bet k 1 2 && (bet k 1 2 && (bet k 1 2 && ((!bif bet k 1 2 then (↑c.length : Int) == 8 else false) && ((!bif bet k 1 2 then (↑c.length : Int) == 8 else false) && ((!bif bet k 1 2 then (↑c.length : Int) == 8 else false) && ((!bif bet k 1 2 then (↑c.length : Int) == 8 else false) && ((!bif bet k 1 2 then (↑c.length : Int) == 8 else false) && ((!bif bet k 1 2 then (↑c.length : Int) == 8 else false) && ((!bif bet k 1 2 then (↑c.length : Int) == 8 else false) && true)))))))))), []⟩ := by kernel_rfl
theorem x106_3 (k : Int) (c : List Bool) : evalF tt (ctOf T50) ([]) 100 Tryz.f106 [.c (.int .i64 k), .c (.view none (.bools c) c.length 1 none)] [] [(0, false)] =
    some ⟨.c (.bool false), [], (!bet k 1 2 && (!bet k 1 2 && (!bet k 1 2 && ((!bet k 1 2) && true)))), []⟩ := by kernel_rfl
theorem l21LoseM : ModelOk Tryz.prog 103 (inlM tt (ctOf T50) Tryz.f103 []) := inlM_ok hT t50 hmix [] (by kernel_rfl) (by kernel_rfl)
end Go.Proofs.YtliggcjjkdklhaaGreat.Am

