/- DERIVED. Part 7 of the proof: C43, C44. No statement of the program is proved here. -/
import Derived.Test.YtliggcjjkdklhaaGreatX06
set_option linter.unusedSimpArgs false
set_option linter.unusedVariables false
set_option linter.unusedSectionVars false
section
/- DERIVED. Contracts: tidy rows, rows of shards, what bears. No statement of the program is proved here. -/
namespace Go.Proofs.YtliggcjjkdklhaaGreat.Am
noncomputable def T48 : List Entry := [⟨153, [], nm FFadd⟩] ++ T47
theorem e48 : EntriesOk Tryz.prog T48 := by
  refine EntriesOk.append ?_ e47
  intro e he
  simp only [List.mem_cons, List.not_mem_nil, or_false] at he
  subst he; exact m153.ok
theorem t48 : CtOk Tryz.prog (ctOf T48) := ctOf_ok e48
noncomputable abbrev f134 := Tryz.f134
noncomputable def I134 (m out : List (List Int)) (n : Nat) (i : Int) : St :=
  stOf f134.ntmps [(0, .c (.view none (.ivs .i64 m) m.length 1 none)), (3, .c (.view none (.ivs .i64 out) n 1 none)), (4, .c (.int .i64 i))] []
noncomputable def X134 (out : List (List Int)) (n : Nat) : St := stOf f134.ntmps [(3, .c (.view none (.ivs .i64 out) n 1 none))] []
theorem r134_1 (m out : List (List Int)) (n : Nat) (i : Int) : roundR 0 (liveH f134 0) (liveB' f134 0) (evalC tt (ctOf T48) ([]) 0 100 (bodyAt 0 (codeOf f134)) (I134 m out n i) [(0, true)]) =
    some (.normal, (decide (i < (↑m.length : Int)) && (decide (0 ≤ i) && (decide (i < (↑m.length : Int)) && (decide (i.toNat < m.length) && (decide ((m.getD i.toNat []).length ≤ 274877906944) && (decide (out.length ≤ 1000) && (tdOk (m.getD i.toNat []).length out && ((allFok (m.getD i.toNat [])) && true)))))))), [], I134 m (addL out (m.getD i.toNat [])) ((addL out (m.getD i.toNat [])).length) (IntKind.i64.wrap (i + 1))) := by kernel_rfl
theorem r134_2 (m out : List (List Int)) (n : Nat) (i : Int) : roundR 0 (liveH f134 0) (liveB' f134 0) (evalC tt (ctOf T48) ([]) 0 100 (bodyAt 0 (codeOf f134)) (I134 m out n i) [(0, false)]) =
    some (.exit 0, ((!decide (i < (↑m.length : Int))) && true), [], X134 (out) (n)) := by kernel_rfl
def tidT (m : List (List Int)) (i : Nat) (out : List (List Int)) : List (List Int) := addL out (m.getD i [])
def tidL (m : List (List Int)) : List (List Int) := runN (tidT m) m.length 0 []
def tidOkAt (m : List (List Int)) : Nat → Nat → List (List Int) → Bool
  | 0, _, _ => true
  | f + 1, i, out => (decide ((m.getD i []).length ≤ 274877906944) && (decide (out.length ≤ 1000) && (tdOk (m.getD i []).length out && allFok (m.getD i [])))) && tidOkAt m f (i + 1) (tidT m i out)
def tidOk (m : List (List Int)) : Bool := tidOkAt m m.length 0 []
noncomputable def J134 (m : List (List Int)) : St :=
  stOf f134.ntmps [(0, .c (.view none (.ivs .i64 m) m.length 1 none)), (3, .c (.sl 0 0 0 1 none)), (4, .c (.int .i64 0))] [.live (.ivs .i64 [])]
theorem l134 (m : List (List Int)) (hm : m.length ≤ 274877906944) (ht : tidOk m = true) :
    Good Tryz.prog 0 (.block 0 (.loop (bodyAt 0 (codeOf f134)))) (J134 m) fun e t => e = .normal ∧ t = X134 (tidL m) (tidL m).length := by
  have g := Good.count hT t48 hmix (m := 0) (id := 0) (body := bodyAt 0 (codeOf f134)) m.length (fun i out => tidOkAt m (m.length - i) i out = true) (fun i out => I134 m out out.length i) (fun out => X134 out out.length) (tidT m) (liveH f134 0) (liveB' f134 0)
    (fun _ _ => []) (fun _ _ _ _ => LcOk.nil) (fun i out hi h => ?_) (fun out h => ⟨_, _, ⟨_, _, r134_2 m out out.length m.length, by simp, by simp⟩⟩) [] ht
  · have e : fit 0 (liveH f134 0) ⟨(J134 m).tmps.set 3 (.c (.view none (.ivs .i64 []) 0 1 none)), (J134 m).heap.set 0 .dead⟩ = I134 m [] 0 0 := by kernel_rfl
    have w := (Weak.froz 0 3 0 (s := J134 m) (len := 0) (es := 1) (cap := none) (c := .ivs .i64 []) rfl rfl rfl rfl).trans (Weak.fit 0 (liveH f134 0) _)
    rw [e] at w
    exact g.pre w
  · rw [show m.length - i = (m.length - (i + 1)) + 1 from by omega] at h
    simp only [tidOkAt, Bool.and_eq_true, decide_eq_true_eq] at h
    obtain ⟨⟨h1, h2, h3, h4⟩, h5⟩ := h
    refine ⟨h5, ?_⟩
    have e := r134_1 m out out.length i
    rw [wrap_small (by omega) (by omega), Int.toNat_natCast] at e
    refine ⟨_, _, ⟨_, _, e, ?_, by simp⟩⟩
    simp only [h1, h2, h3, h4, decide_true, bS]
    omega
theorem x134_1 (m : List (List Int)) : evalF tt (ctOf T48) ([(0, ⟨liveH f134 0, J134 m, .normal, X134 (tidL m) (tidL m).length⟩)]) 100 f134 [.c (.view none (.ivs .i64 m) m.length 1 none)] [] [] =
    some ⟨.c (.view none (.ivs .i64 (tidL m)) (tidL m).length 1 none), [], true, [J134 m = J134 m]⟩ := by kernel_rfl
def FFtidy : Model := fun args h =>
  match args, h with
  | [.c (.view _ (.ivs .i64 m) n 1 _)], [] =>
    some (.c (.view none (.ivs .i64 (tidL m)) (tidL m).length 1 none), [], [decide (m.length ≤ 274877906944), tidOk m])
  | _, _ => none
theorem m134 : ModelN Tryz.prog 134 FFtidy := by
  intro args h res h' o hnorm he ho
  unfold FFtidy at he
  split at he
  case h_2 => cases he
  rename_i nl m n cap
  simp only [Option.some.injEq, Prod.mk.injEq] at he
  obtain ⟨rfl, rfl, rfl⟩ := he
  simp only [List.mem_cons, List.not_mem_nil, or_false, forall_eq_or_imp, forall_eq, decide_eq_true_eq] at ho
  obtain ⟨o1, o2⟩ := ho
  simp only [normA, AV.norm, normL, Cell.norm, Con.size, List.cons.injEq, AV.c.injEq, AV.agg.injEq, Cell.view.injEq, nlen_one, true_and, and_true] at hnorm
  obtain ⟨rfl, rfl, rfl⟩ := hnorm
  exact meets_of t48 (fn := f134) (by kernel_rfl) (by kernel_rfl) (x134_1 m) (by simp) (by simp) (fun cc hcc => LcOk.cons (c := cc) (by cases hcc; kernel_rfl) (by cases hcc; exact l134 m o1 o2) LcOk.nil)
noncomputable def T49 : List Entry := [⟨134, [], nm FFtidy⟩] ++ T48
theorem e49 : EntriesOk Tryz.prog T49 := by
  refine EntriesOk.append ?_ e48
  intro e he
  simp only [List.mem_cons, List.not_mem_nil, or_false] at he
  subst he; exact m134.ok
theorem t49 : CtOk Tryz.prog (ctOf T49) := ctOf_ok e49
theorem x132_1 (m : List (List Int)) (v : List Int) : evalF tt (ctOf T49) ([]) 100 Tryz.f132 [.c (.view none (.ivs .i64 m) m.length 1 none), .c (.view none (.ints .i64 v) v.length 1 none)] [] [] =
    some ⟨.c (.bool ((↑(addL (tidL m) v).length : Int) == (↑(tidL m).length : Int))), [], (decide (m.length ≤ 274877906944) && (tidOk m && (decide (v.length ≤ 274877906944) && (decide ((tidL m).length ≤ 1000) && (tdOk v.length (tidL m) && ((allFok v) && true)))))), []⟩ := by kernel_rfl
noncomputable abbrev f135 := Tryz.f135
noncomputable def I135 (k : Int) (c : List Bool) (n : Nat) (out : List (List Int)) (i : Int) : St :=
  stOf f135.ntmps [(0, .c (.int .i64 k)), (1, .c (.view none (.bools c) c.length 1 none)), (5, .c (.sl 0 0 n 1 none)), (6, .c (.int .i64 i))] [.live (.ivs .i64 out)]
noncomputable def X135 (n : Nat) (out : List (List Int)) : St := stOf f135.ntmps [(5, .c (.sl 0 0 n 1 none))] [.live (.ivs .i64 out)]
theorem r135_1 (k : Int) (c : List Bool) (n : Nat) (out : List (List Int)) (i : Int) : roundR 0 (liveH f135 0) (liveB' f135 0) (evalC tt (ctOf T49) ([]) 0 100 (bodyAt 0 (codeOf f135)) (I135 k c n out i) [(0, true), (0, true)]) =
    some (.normal, (decide (i < 8) && (decide (0 ≤ i) && (decide (i < (↑c.length : Int)) && (decide (i.toNat < c.length) && ((c.getD i.toNat false) && (bet k 1 2 && (bet i 0 7 && (decide (n = out.length) && ((decide (n + 1 ≤ 274877906944)) && true))))))))), [], I135 k c (n + 1) (out ++ [rowL k i]) (IntKind.i64.wrap (i + 1))) := by kernel_rfl
theorem r135_2 (k : Int) (c : List Bool) (n : Nat) (out : List (List Int)) (i : Int) : roundR 0 (liveH f135 0) (liveB' f135 0) (evalC tt (ctOf T49) ([]) 0 100 (bodyAt 0 (codeOf f135)) (I135 k c n out i) [(0, true), (0, false)]) =
    some (.normal, (decide (i < 8) && (decide (0 ≤ i) && (decide (i < (↑c.length : Int)) && (decide (i.toNat < c.length) && ((!c.getD i.toNat false) && true))))), [], I135 k c (n) (out) (IntKind.i64.wrap (i + 1))) := by kernel_rfl
theorem r135_3 (k : Int) (c : List Bool) (n : Nat) (out : List (List Int)) (i : Int) : roundR 0 (liveH f135 0) (liveB' f135 0) (evalC tt (ctOf T49) ([]) 0 100 (bodyAt 0 (codeOf f135)) (I135 k c n out i) [(0, false)]) =
    some (.exit 0, ((!decide (i < 8)) && true), [], X135 (n) (out)) := by kernel_rfl
noncomputable abbrev f62 := Tryz.f62
noncomputable def I62 (k : Int) (v : List Int) (n : Nat) (out : List Int) (i : Int) : St :=
  stOf f62.ntmps [(0, .c (.int .i64 k)), (1, .c (.view none (.ints .i64 v) v.length 1 none)), (5, .c (.sl 0 0 n 1 none)), (6, .c (.int .i64 i))] [.live (.ints .i64 out)]
noncomputable def X62 (n : Nat) (out : List Int) : St := stOf f62.ntmps [(5, .c (.sl 0 0 n 1 none))] [.live (.ints .i64 out)]
theorem r62_1 (k : Int) (v : List Int) (n : Nat) (out : List Int) (i : Int) : roundR 0 (liveH f62 0) (liveB' f62 0) (evalC tt (ctOf T49) ([]) 0 100 (bodyAt 0 (codeOf f62)) (I62 k v n out i) [(0, true)]) =
    some (.normal, (decide (i < 8) && (bet k 1 2 && (bet i 0 7 && (decide ((rowL k i).length ≤ 274877906944) && (decide ((rowL k i).length ≤ v.length) && (allFok (rowL k i) && (allFok v && (decide (n = out.length) && ((decide (n + 1 ≤ 274877906944)) && true))))))))), [], I62 k v (n + 1) (out ++ [dotL (rowL k i) v]) (IntKind.i64.wrap (i + 1))) := by kernel_rfl
theorem r62_2 (k : Int) (v : List Int) (n : Nat) (out : List Int) (i : Int) : roundR 0 (liveH f62 0) (liveB' f62 0) (evalC tt (ctOf T49) ([]) 0 100 (bodyAt 0 (codeOf f62)) (I62 k v n out i) [(0, false)]) =
    some (.exit 0, ((!decide (i < 8)) && true), [], X62 (n) (out)) := by kernel_rfl
end Go.Proofs.YtliggcjjkdklhaaGreat.Am

end
section
/- DERIVED. Contracts: all shards, rows of shards, what bears; copies. No statement of the program is proved here. -/
namespace Go.Proofs.YtliggcjjkdklhaaGreat.Am
def hasL (m : List (List Int)) (v : List Int) : Bool := ((addL (tidL m) v).length : Int) == ((tidL m).length : Int)
def FFhas : Model := fun args h =>
  match args, h with
  | [.c (.view _ (.ivs .i64 m) n 1 _), .c (.view _ (.ints .i64 v) n2 1 _)], [] =>
    some (.c (.bool (hasL m v)), [], [decide (m.length ≤ 274877906944), tidOk m, decide (v.length ≤ 274877906944), decide ((tidL m).length ≤ 1000), tdOk v.length (tidL m), allFok v])
  | _, _ => none
theorem m132 : ModelN Tryz.prog 132 FFhas := by
  intro args h res h' o hnorm he ho
  unfold FFhas at he
  split at he
  case h_2 => cases he
  rename_i nl m n cap nl2 v n2 cap2
  simp only [Option.some.injEq, Prod.mk.injEq] at he
  obtain ⟨rfl, rfl, rfl⟩ := he
  simp only [List.mem_cons, List.not_mem_nil, or_false, forall_eq_or_imp, forall_eq, decide_eq_true_eq] at ho
  obtain ⟨o1, o2, o3, o4, o5, o6⟩ := ho
  simp only [normA, AV.norm, normL, Cell.norm, Con.size, List.cons.injEq, AV.c.injEq, AV.agg.injEq, Cell.view.injEq, nlen_one, true_and, and_true] at hnorm
  obtain ⟨⟨rfl, rfl, rfl⟩, rfl, rfl, rfl⟩ := hnorm
  exact meets_of t49 (by kernel_rfl) (by kernel_rfl) (x132_1 m v) (by simp [o1, o2, o3, o4, o5, o6]) (by simp) (fun cc _ => LcOk.nil)
theorem rowL_len {k a : Int} (hk : bet k 1 2 = true) (ha : bet a 0 7 = true) : (rowL k a).length = 4 := by
  refine of16 (q := fun k a => (rowL k a).length = 4) (fun i hi => ?_) hk ha
  have all : allK (fun k => decide ((rowL ((k / 8 : Nat) + 1 : Int) (k % 8 : Nat)).length = 4)) 16 = true := by kernel_rfl
  simpa using allK_spec all i hi
def cdL (k : Int) (v : List Int) : List Int := [dotL (rowL k 0) v, dotL (rowL k 1) v, dotL (rowL k 2) v, dotL (rowL k 3) v, dotL (rowL k 4) v, dotL (rowL k 5) v, dotL (rowL k 6) v, dotL (rowL k 7) v]
theorem l62 (k : Int) (v : List Int) (hk : bet k 1 2 = true) (hv : v.length = 4) (hf : allFok v = true) :
    Good Tryz.prog 0 (.block 0 (.loop (bodyAt 0 (codeOf f62)))) (I62 k v 0 [] 0) fun e t => e = .normal ∧ t = X62 8 (cdL k v) := by
  refine (Good.count hT t49 hmix (m := 0) (id := 0) (body := bodyAt 0 (codeOf f62)) 8 (fun i o => o.length = i) (fun i o => I62 k v o.length o i) (fun o => X62 o.length o) (fun i o => o ++ [dotL (rowL k (i : Int)) v]) (liveH f62 0) (liveB' f62 0)
    (fun _ _ => []) (fun _ _ _ _ => LcOk.nil) (fun i o hi h => ⟨by simp [h], ?_⟩) (fun o h => ⟨_, _, ⟨_, _, r62_2 k v o.length o (8 : Nat), rfl, by simp⟩⟩)) [] rfl
  have e := r62_1 k v o.length o i
  rw [wrap_small (by omega) (by omega)] at e
  have hb : bet (i : Int) 0 7 = true := bet_iff.2 ⟨by omega, by omega⟩
  have hl := rowL_len hk hb
  rw [List.length_append]
  refine ⟨_, _, ⟨_, _, e, ?_, by simp⟩⟩
  simp only [hk, hb, hf, rowL_fok hk hb, bS]
  omega
theorem x62_1 (k : Int) (v : List Int) : evalF tt (ctOf T49) ([(0, ⟨liveH f62 0, I62 k v 0 [] 0, .normal, X62 8 (cdL k v)⟩)]) 100 f62 [.c (.int .i64 k), .c (.view none (.ints .i64 v) v.length 1 none)] [] [] =
    some ⟨.c (.sl 0 0 8 1 none), [.live (.ints .i64 (cdL k v))], true, [I62 k v 0 [] 0 = I62 k v 0 [] 0]⟩ := by kernel_rfl
def FFall : Model := fun args h =>
  match args, h with
  | [.c (.int .i64 k), .c (.view _ (.ints .i64 v) n 1 _)], [] =>
    some (.c (.sl 0 0 8 1 none), [.live (.ints .i64 (cdL k v))], [bet k 1 2, decide (v.length = 4), allFok v])
  | _, _ => none
theorem m62 : ModelN Tryz.prog 62 FFall := by
  intro args h res h' o hnorm he ho
  unfold FFall at he
  split at he
  case h_2 => cases he
  rename_i k nl v n cap
  simp only [Option.some.injEq, Prod.mk.injEq] at he
  obtain ⟨rfl, rfl, rfl⟩ := he
  simp only [List.mem_cons, List.not_mem_nil, or_false, forall_eq_or_imp, forall_eq, decide_eq_true_eq] at ho
  obtain ⟨o1, o2, o3⟩ := ho
  simp only [normA, AV.norm, normL, Cell.norm, Con.size, List.cons.injEq, AV.c.injEq, AV.agg.injEq, Cell.view.injEq, nlen_one, true_and, and_true] at hnorm
  obtain ⟨rfl, rfl, rfl⟩ := hnorm
  exact meets_of t49 (fn := f62) (by kernel_rfl) (by kernel_rfl) (x62_1 k v) (by simp) (by simp) (fun cc hcc => LcOk.cons (c := cc) (by cases hcc; kernel_rfl) (by cases hcc; exact l62 k v o1 o2 o3) LcOk.nil)
def rwS (k : Int) (c : List Bool) (i : Nat) (o : List (List Int)) : List (List Int) := bif c.getD i false then o ++ [rowL k i] else o
def rwL (k : Int) (c : List Bool) : List (List Int) := runN (rwS k c) 8 0 []
theorem l135 (k : Int) (c : List Bool) (hk : bet k 1 2 = true) (hc : c.length = 8) :
    Good Tryz.prog 0 (.block 0 (.loop (bodyAt 0 (codeOf f135)))) (I135 k c 0 [] 0) fun e t => e = .normal ∧ t = X135 (rwL k c).length (rwL k c) := by
  refine (Good.count hT t49 hmix (m := 0) (id := 0) (body := bodyAt 0 (codeOf f135)) 8 (fun i o => o.length ≤ i) (fun i o => I135 k c o.length o i) (fun o => X135 o.length o) (rwS k c) (liveH f135 0) (liveB' f135 0)
    (fun _ _ => []) (fun _ _ _ _ => LcOk.nil) (fun i o hi h => ?_) (fun o h => ⟨_, _, ⟨_, _, r135_3 k c o.length o (8 : Nat), rfl, by simp⟩⟩)) [] (by simp)
  have hb : bet (i : Int) 0 7 = true := bet_iff.2 ⟨by omega, by omega⟩
  unfold rwS
  cases hq : c.getD i false with
  | true =>
    refine ⟨by simp; omega, ?_⟩
    have e := r135_1 k c o.length o i
    rw [wrap_small (by omega) (by omega), Int.toNat_natCast] at e
    rw [cond_true, List.length_append]
    refine ⟨_, _, ⟨_, _, e, ?_, by simp⟩⟩
    simp only [hk, hb, hq, bS]
    omega
  | false =>
    refine ⟨by rw [cond_false]; omega, ?_⟩
    have e := r135_2 k c o.length o i
    rw [wrap_small (by omega) (by omega), Int.toNat_natCast] at e
    rw [cond_false]
    refine ⟨_, _, ⟨_, _, e, ?_, by simp⟩⟩
    simp only [hq, bS]
    omega
theorem x135_1 (k : Int) (c : List Bool) : evalF tt (ctOf T49) ([(0, ⟨liveH f135 0, I135 k c 0 [] 0, .normal, X135 (rwL k c).length (rwL k c)⟩)]) 100 f135 [.c (.int .i64 k), .c (.view none (.bools c) c.length 1 none)] [] [] =
    some ⟨.c (.sl 0 0 (rwL k c).length 1 none), [.live (.ivs .i64 (rwL k c))], true, [I135 k c 0 [] 0 = I135 k c 0 [] 0]⟩ := by kernel_rfl
def FFrw : Model := fun args h =>
  match args, h with
  | [.c (.int .i64 k), .c (.view _ (.bools c) n 1 _)], [] =>
    some (.c (.view none (.ivs .i64 (rwL k c)) (rwL k c).length 1 none), [], [bet k 1 2, decide (c.length = 8)])
  | _, _ => none
theorem m135 : ModelN Tryz.prog 135 FFrw := by
  intro args h res h' o hnorm he ho
  unfold FFrw at he
  split at he
  case h_2 => cases he
  rename_i k nl c n cap
  simp only [Option.some.injEq, Prod.mk.injEq] at he
  obtain ⟨rfl, rfl, rfl⟩ := he
  simp only [List.mem_cons, List.not_mem_nil, or_false, forall_eq_or_imp, forall_eq, decide_eq_true_eq] at ho
  obtain ⟨o1, o2⟩ := ho
  simp only [normA, AV.norm, normL, Cell.norm, Con.size, List.cons.injEq, AV.c.injEq, AV.agg.injEq, Cell.view.injEq, nlen_one, true_and, and_true] at hnorm
  obtain ⟨rfl, rfl, rfl⟩ := hnorm
  exact (meets_of (f := 135) t49 (fn := f135) (by kernel_rfl) (by kernel_rfl) (x135_1 k c) (by simp) (by simp) (fun cc hcc => LcOk.cons (c := cc) (by cases hcc; kernel_rfl) (by cases hcc; exact l135 k c o1 o2) LcOk.nil)).views
    (o := [decide ((rwL k c).length = (rwL k c).length)]) rfl (by simp)
theorem x101_1 (k : Int) (a b : List Int) (c : List Bool) : evalF tt (ctOf T49) ([]) 100 Tryz.f101 [.agg [.int .i64 k, .view none (.ints .i64 a) a.length 1 none, .view none (.ints .i64 b) b.length 1 none, .view none (.bools c) c.length 1 none]] [] [] =
    some ⟨.agg [.int .i64 k, .sl 0 0 (0 + a.length) 1 none, .sl 1 0 (0 + b.length) 1 none, .sl 2 0 (0 + c.length) 1 none], [.live (.ints .i64 ([] ++ a)), .live (.ints .i64 ([] ++ b)), .live (.bools ([] ++ c))], (decide (0 + a.length ≤ 274877906944) && (decide (0 + b.length ≤ 274877906944) && ((decide (0 + c.length ≤ 274877906944)) && true))), []⟩ := by kernel_rfl
def FFcopy : Model := fun args h =>
  match args, h with
  | [.agg [.int .i64 k, .view _ (.ints .i64 a) n1 1 _, .view _ (.ints .i64 b) n2 1 _, .view _ (.bools c) n3 1 _]], [] =>
    some (.agg [.int .i64 k, .sl 0 0 a.length 1 none, .sl 1 0 b.length 1 none, .sl 2 0 c.length 1 none], [.live (.ints .i64 a), .live (.ints .i64 b), .live (.bools c)], [decide (a.length ≤ 274877906944), decide (b.length ≤ 274877906944), decide (c.length ≤ 274877906944)])
  | _, _ => none
theorem m101 : ModelN Tryz.prog 101 FFcopy := by
  intro args h res h' o hnorm he ho
  unfold FFcopy at he
  split at he
  case h_2 => cases he
  rename_i k nl1 a n1 cap1 nl2 b n2 cap2 nl3 c n3 cap3
  simp only [Option.some.injEq, Prod.mk.injEq] at he
  obtain ⟨rfl, rfl, rfl⟩ := he
  simp only [List.mem_cons, List.not_mem_nil, or_false, forall_eq_or_imp, forall_eq, decide_eq_true_eq] at ho
  obtain ⟨o1, o2, o3⟩ := ho
  simp only [normA, AV.norm, normL, Cell.norm, Con.size, List.cons.injEq, AV.c.injEq, AV.agg.injEq, Cell.view.injEq, nlen_one, true_and, and_true] at hnorm
  obtain ⟨⟨rfl, rfl, rfl⟩, ⟨rfl, rfl, rfl⟩, rfl, rfl, rfl⟩ := hnorm
  have e := x101_1 k a b c
  simp only [Nat.zero_add] at e
  exact meets_of t49 (by kernel_rfl) (by kernel_rfl) e (by simp [o1, o2, o3]) (by simp) (fun cc _ => LcOk.nil)
noncomputable def T50 : List Entry := [⟨132, [], nm FFhas⟩, ⟨62, [], nm FFall⟩, ⟨135, [], nm FFrw⟩, ⟨101, [], nm FFcopy⟩] ++ T49
theorem e50 : EntriesOk Tryz.prog T50 := by
  refine EntriesOk.append ?_ e49
  intro e he
  simp only [List.mem_cons, List.not_mem_nil, or_false] at he
  rcases he with rfl | rfl | rfl | rfl
  · exact m132.ok
  · exact m62.ok
  · exact m135.ok
  · exact m101.ok
theorem t50 : CtOk Tryz.prog (ctOf T50) := ctOf_ok e50
theorem x106_1 (k : Int) (c : List Bool) : evalF tt (ctOf T50) ([]) 100 Tryz.f106 [.c (.int .i64 k), .c (.view none (.bools c) c.length 1 none)] [] [(0, true), (0, true)] =
    some ⟨.c (.bool (bif bif bet k 1 2 then (↑c.length : Int) == 8 else false then (↑(tidL (rwL k c)).length : Int) == 4 else false)), [], (bet k 1 2 && (bet k 1 2 && (bet k 1 2 && ((bif bet k 1 2 then (↑c.length : Int) == 8 else false) && ((bif bet k 1 2 then (↑c.length : Int) == 8 else false) && ((bif bet k 1 2 then (↑c.length : Int) == 8 else false) && (bet k 1 2 && (decide (c.length = 8) && ((bif bet k 1 2 then (↑c.length : Int) == 8 else false) && (decide ((rwL k c).length ≤ 274877906944) && (tidOk (rwL k c) && ((bif bet k 1 2 then (↑c.length : Int) == 8 else false) && ((bif bet k 1 2 then (↑c.length : Int) == 8 else false) && true))))))))))))), []⟩ := by kernel_rfl
theorem x106_2 (k : Int) (c : List Bool) : evalF tt (ctOf T50) ([]) 100 Tryz.f106 [.c (.int .i64 k), .c (.view none (.bools c) c.length 1 none)] [] [(0, true), (0, false)] =
    some ⟨.c (.bool false), [], (bet k 1 2 && (bet k 1 2 && (bet k 1 2 && ((!bif bet k 1 2 then (↑c.length : Int) == 8 else false) && ((!bif bet k 1 2 then (↑c.length : Int) == 8 else false) && ((!bif bet k 1 2 then (↑c.length : Int) == 8 else false) && ((!bif bet k 1 2 then (↑c.length : Int) == 8 else false) && ((!bif bet k 1 2 then (↑c.length : Int) == 8 else false) && ((!bif bet k 1 2 then (↑c.length : Int) == 8 else false) && ((!bif bet k 1 2 then (↑c.length : Int) == 8 else false) && true)))))))))), []⟩ := by kernel_rfl
theorem x106_3 (k : Int) (c : List Bool) : evalF tt (ctOf T50) ([]) 100 Tryz.f106 [.c (.int .i64 k), .c (.view none (.bools c) c.length 1 none)] [] [(0, false)] =
    some ⟨.c (.bool false), [], (!bet k 1 2 && (!bet k 1 2 && (!bet k 1 2 && ((!bet k 1 2) && true)))), []⟩ := by kernel_rfl
theorem l21LoseM : ModelOk Tryz.prog 103 (inlM tt (ctOf T50) Tryz.f103 []) := inlM_ok hT t50 hmix [] (by kernel_rfl) (by kernel_rfl)
end Go.Proofs.YtliggcjjkdklhaaGreat.Am

end
