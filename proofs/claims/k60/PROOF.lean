import PyProof.Rows.All
import Wide.All
import OpenK.AllK
import Wide.FinOn
import HandS.ForMost
import HandS.FStr
import HandS.Wide
import HandS.ExcInit
import HandS.ExcIs
import HandS.ExcField
import HandS.IsInst
import HandS.Flow
import HandS.TryOnly
import HandS.Codes
import HandS.Exc
import HandS.ExcOwn
import HandS.Defaults
import HandS.Evl
import HandS.WordsExc
import KE.IntTextLaws
import KE.KOpsOwn
import PyProof.Rows.StrCountLaw
import PyProof.Rows.StrSplitJoin
import KE.KExcIs
import PySem.Challenge.RW_elderruns_k60_values_that_are_none
set_option Elab.async false
set_option linter.all false
set_option maxRecDepth 100000
set_option maxHeartbeats 8000000
namespace E60
open PySem L2
def topS (i : Nat) : Stmt := PySem.Challenge.pw_elderruns_k60_values_that_are_none.main.body.getD i (.Pass ⟨0, 0, 0, 0⟩)

/-! a def that may be called by its name -/
abbrev Cal := @C8.Cal
theorem cal_mk {P : Program} {w : World} {K : PySem.W.Frag} {mg : Str → Option Value} {base : Heap} {k : Nat} {x : Str} {st : Stmt} {f : Addr} {fd : FuncData} {ps : List Str} {sp : Sp}
    (F : Fun K x x st f fd) (hm : mg x = some (.ref f)) (b : Binds K fd ps []) (G : FnOk P w K mg base L2.CX0 k f fd ps sp) : Cal P w K mg base k x sp [] :=
  ⟨f, fd, ps, [], G, hm, F.kp, b, .nil⟩

/-! comprehensions over a text -/
theorem lc_str {x : Str} {g : TG} {tt : TT} {te : TE} {vs : List Nat} {σ : St} {H1 : Hp} {D : Addr} {Qd : Hp → Prop} (Pv : Nat → Hp → Prop) (h0 : Pv 0 (upd H1 D (.lst [])))
    (hs : ∀ i c H, x.cps.toList[i]? = some c → Pv i H → g (.str ⟨#[c]⟩) (wipe σ vs) H fun σ2 H2 => wipe σ2 vs = wipe σ vs ∧ tt σ2 H2 fun b H3 =>
      if b = true then te σ2 H3 fun y H4 => ∃ acc, H4 D = some (.lst acc) ∧ acc.length < sizeLine ∧ Pv (i + 1) (upd H4 D (.lst (acc ++ [y]))) else Pv (i + 1) H3) (hd : ∀ H, Pv x.cps.toList.length H → Qd H) :
    ∃ W : Nat → Nat → Hp → Prop, (∃ m, W 0 m (upd H1 D (.lst []))) ∧ ∀ i m H, W i m H →
      ((Its x).stop i H ∧ Qd H) ∨ ((Its x).go i H ∧ ∃ Nx : Hp → Prop, (∀ H', Nx H' → ∃ m', m' < m ∧ W (i + 1) m' H') ∧ ∀ y H', (Its x).yld i H y H' → g y (wipe σ vs) H' fun σ2 H2 => wipe σ2 vs = wipe σ vs ∧ tt σ2 H2 fun b H3 =>
        if b = true then te σ2 H3 fun y H4 => ∃ acc, H4 D = some (.lst acc) ∧ acc.length < sizeLine ∧ Nx (upd H4 D (.lst (acc ++ [y]))) else Nx H3) := by
  have hsz : x.cps.size = x.cps.toList.length := by simp
  refine ⟨fun i m H => m = x.cps.toList.length - i ∧ i ≤ x.cps.toList.length ∧ Pv i H, ⟨x.cps.toList.length, by simp, Nat.zero_le _, h0⟩, ?_⟩
  rintro i m H ⟨rfl, hi, p⟩
  by_cases hlt : i < x.cps.toList.length
  · refine .inr ⟨by show i < x.cps.size; omega, Pv (i + 1), fun H' p' => ⟨x.cps.toList.length - (i + 1), by omega, rfl, hlt, p'⟩, fun y H' hy => ?_⟩
    obtain ⟨e, c, hc, e2⟩ := hy
    subst e e2
    refine hs i c _ ?_ p
    simpa using hc
  · have e : i = x.cps.toList.length := by omega
    subst e
    exact .inl ⟨by show x.cps.size ≤ _; omega, hd H p⟩

/-- [e for c in text if t], e and t without a trace: the list of what stands for the signs -/
theorem lc_str_map {ta : TE} {x : Str} {tt : TT} {te : TE} {vs : List Nat} {j : Nat} {σ : St} {H : Hp} {Q : VK} (p : Nat → Bool) (f : Nat → V)
    (ha : ∀ Q' : VK, Q' (.str x) H → ta σ H Q') (hz : x.cps.toList.length < 100000)
    (hw : ∀ y, wipe ((wipe σ vs).set j (some y)) vs = wipe σ vs)
    (ht : ∀ c ∈ x.cps.toList, ∀ H' (Q' : Bool → Hp → Prop), Q' (p c) H' → tt ((wipe σ vs).set j (some (.str ⟨#[c]⟩))) H' Q')
    (he : ∀ c ∈ x.cps.toList, p c = true → ∀ H' (Q' : VK), Q' (f c) H' → te ((wipe σ vs).set j (some (.str ⟨#[c]⟩))) H' Q')
    (hq : ∀ D, H D = none → Q (.ref D) (upd H D (.lst ((x.cps.toList.filter p).map f)))) :
    tLc (iStr ta) (gName j) tt te vs σ H Q := by
  refine ha _ ⟨x, rfl, fun D hD => ?_⟩
  refine lc_str (fun i H' => H' = upd H D (.lst (((x.cps.toList.take i).filter p).map f))) ?_ ?_ ?_
  · simp
  · intro i c H' hc e
    subst e
    have hm : c ∈ x.cps.toList := List.mem_of_getElem? hc
    have hlt : i < x.cps.toList.length := (List.getElem?_eq_some_iff.mp hc).1
    have tk : x.cps.toList.take (i + 1) = x.cps.toList.take i ++ [c] := by
      rw [List.take_succ, hc]; rfl
    have hlen : (((x.cps.toList.take i).filter p).map f).length ≤ i := by
      rw [List.length_map]
      exact Nat.le_trans (List.length_filter_le _ _) (by rw [List.length_take]; omega)
    refine ⟨hw _, ht c hm _ _ ?_⟩
    cases hp : p c with
    | false =>
      refine iteF ?_
      rw [tk, List.filter_append, List.filter_cons_of_neg (by simp [hp])]
      simp
    | true =>
      refine iteT (he c hm hp _ _ ?_)
      refine ⟨_, upd_same, Nat.lt_of_le_of_lt hlen (Nat.lt_of_lt_of_le (Nat.lt_trans hlt hz) (by decide)), ?_⟩
      rw [tk, List.filter_append, List.filter_cons_of_pos hp, List.map_append]
      funext b
      by_cases hb : b = D
      · subst hb; rw [upd_same, upd_same]; simp
      · rw [upd_ne hb, upd_ne hb, upd_ne hb]
  · intro H' e
    subst e
    rw [List.take_length]
    exact hq D hD
end E60
namespace E60
open PySem L2 Evl
section
variable {te ta tb tc : TE} {σ : L2.St} {H : Hp} {x y z v : V} {K : PySem.W.Frag}
theorem same_new {H : Hp} {p : Addr} (h : H p = none) (o : HO) : Ex H (upd H p o) := fun b u q => by rw [upd_ne (ne_of_none q h)]; exact q
/-- a chain of two comparisons -/
theorem ev_chain {r r' : R2} {a b : Bool} (ha : Ev ta σ H x) (hb : Ev tb σ H y) (hr : RV r x y H (.bl a)) (hc : a = true → Ev tc σ H z) (hr' : a = true → RV r' y z H (.bl b)) : Ev (tChain r r' ta tb tc) σ H (.bl (a && b)) := fun H1 e Q q =>
  ha H1 e _ fun H2 e2 => hb H2 (e.trans e2) _ fun H3 e3 => hr H3 (e.trans (e2.trans e3)) _ fun H4 e4 => by
    refine ⟨a, rfl, ?_⟩
    cases a with
    | false => exact iteF (q H4 (e2.trans (e3.trans e4)))
    | true =>
      refine iteT (hc rfl H4 (e.trans (e2.trans (e3.trans e4))) _ fun H5 e5 => hr' rfl H5 (e.trans (e2.trans (e3.trans (e4.trans e5)))) _ fun H6 e6 => ?_)
      exact q H6 (e2.trans (e3.trans (e4.trans (e5.trans e6))))
/-- len of a text -/
theorem ev_lenS {s : Str} (ha : Ev ta σ H (.str s)) (hz : s.length ≤ 100000) : Ev (tCB (fun xs H Q => ∃ z : Str, xs = [.str z] ∧ z.length ≤ sizeLine ∧ Q (.int (z.length : Nat)) H) (tCons ta tNil)) σ H (.int (s.length : Int)) := fun H1 e Q q =>
  ha H1 e _ fun H2 e2 => ⟨s, rfl, sz_of hz, q H2 e2⟩
/-- a slice of a text -/
theorem ev_slS {tl th : TO} {s : Str} {lo hi : Option Int} (ha : Ev ta σ H (.str s)) (h1 : EvO tl σ H lo) (h2 : EvO th σ H hi) (hz : s.length ≤ 100000) : Ev (tSl C8.rSlX ta tl th) σ H (.str (Txt.slice s lo hi)) := fun H1 e Q q =>
  ha H1 e _ fun H2 e2 => h1 H2 (e.trans e2) _ fun H3 e3 => h2 H3 (e.trans (e2.trans e3)) _ fun H4 e4 => ⟨s, rfl, sz_of hz, q H4 (e2.trans (e3.trans e4))⟩
/-- one sign in a text -/
theorem rv_inC {c : Nat} {s : Str} : RV (fun x y H Q => ∃ (c : Nat) (z : Str), x = .str ⟨#[c]⟩ ∧ y = .str z ∧ Q (.bl (decide (c ∈ z.cps.toList))) H) (.str ⟨#[c]⟩) (.str s) H (.bl (decide (c ∈ s.cps.toList))) := fun H1 _ _ q => ⟨c, s, rfl, rfl, q H1 (Ex.refl H1)⟩
theorem rv_niC {c : Nat} {s : Str} : RV (fun x y H Q => ∃ (c : Nat) (z : Str), x = .str ⟨#[c]⟩ ∧ y = .str z ∧ Q (.bl (!decide (c ∈ z.cps.toList))) H) (.str ⟨#[c]⟩) (.str s) H (.bl (!decide (c ∈ s.cps.toList))) := fun H1 _ _ q => ⟨c, s, rfl, rfl, q H1 (Ex.refl H1)⟩
theorem rv_catS {a b : Str} (h : a.length + b.length ≤ 100000) : RV (fun x y H Q => ∃ i j, x = .str i ∧ y = .str j ∧ i.length + j.length ≤ sizeLine ∧ Q (.str (i ++ j)) H) (.str a) (.str b) H (.str (a ++ b)) := fun H1 _ _ q => ⟨a, b, rfl, rfl, sz_of h, q H1 (Ex.refl H1)⟩
/-- a new list: [e for c in text if t] -/
theorem el_lcS {ta : TE} {s : Str} {tt : TT} {te : TE} {vs : List Nat} {j : Nat} (p : Nat → Bool) (f : Nat → V)
    (ha : Ev ta σ H (.str s)) (hz : s.length < 100000) (hw : ∀ y, wipe ((wipe σ vs).set j (some y)) vs = wipe σ vs)
    (ht : ∀ c H', Ex H H' → EvT tt ((wipe σ vs).set j (some (.str ⟨#[c]⟩))) H' (p c))
    (he : ∀ c H', p c = true → Ex H H' → Ev te ((wipe σ vs).set j (some (.str ⟨#[c]⟩))) H' (f c)) : EvL (tLc (iStr ta) (gName j) tt te vs) σ H ((s.cps.toList.filter p).map f) := fun H1 e Q q => by
  refine ha H1 e _ fun H2 e2 => ⟨s, rfl, fun D hD => ?_⟩
  have hsz : s.cps.toList.length < 100000 := by simpa [Str.length] using hz
  refine lc_str (fun i H' => Ex H2 H' ∧ H' D = some (.lst (((s.cps.toList.take i).filter p).map f))) ⟨same_new hD _, by simp [upd_same]⟩ ?_ ?_
  · rintro i c H' hc ⟨e3, hd⟩
    have hlt : i < s.cps.toList.length := (List.getElem?_eq_some_iff.mp hc).1
    have tk : s.cps.toList.take (i + 1) = s.cps.toList.take i ++ [c] := by rw [List.take_add_one, hc]; rfl
    have hlen : (((s.cps.toList.take i).filter p).map f).length ≤ i := by
      rw [List.length_map]
      exact Nat.le_trans (List.length_filter_le _ _) (by rw [List.length_take]; omega)
    refine ⟨hw _, ht c H' (e.trans (e2.trans e3)) H' (Ex.refl _) _ fun H3 e4 => ?_⟩
    cases hp : p c with
    | false =>
      refine iteF ⟨e3.trans e4, ?_⟩
      rw [tk, List.filter_append, List.filter_cons_of_neg (by simp [hp]), e4 _ _ hd]
      simp
    | true =>
      refine iteT (he c H3 hp (e.trans (e2.trans (e3.trans e4))) H3 (Ex.refl _) _ fun H4 e5 => ?_)
      refine ⟨_, e5 _ _ (e4 _ _ hd), Nat.lt_of_le_of_lt hlen (Nat.lt_of_lt_of_le (Nat.lt_trans hlt hsz) (by decide)), ?_, ?_⟩
      · exact ((e3.trans e4).trans e5).mut hD
      · rw [upd_same, tk, List.filter_append, List.filter_cons_of_pos hp, List.map_append]; simp
  · rintro H' ⟨e3, hd⟩
    rw [List.take_length] at hd
    exact q D H' (fresh_back e2 hD) (e2.trans e3) hd
/-- all of a new list of truth values -/
theorem ev_all {bs : List Bool} {l : List V} (h : EvL te σ H l) (hl : l = bs.map V.bl) : Ev (tCB (rAll K) (tCons te tNil)) σ H (.bl (bs.all id)) := fun H1 e Q q =>
  h H1 e _ fun p H2 _ e2 h2 => ⟨p, bs, rfl, by subst hl; exact sq_of h2, q H2 e2⟩
theorem el_is {te : TE} {xs ys : List V} (h : EvL te σ H xs) (e : xs = ys) : EvL te σ H ys := by subst e; exact h
theorem et_yes : EvT tYes σ H true := fun H1 _ _ q => q H1 (Ex.refl H1)
theorem rv_le {i j : Int} : RV (rI0 fun i j => .bl (decide (i ≤ j))) (.int i) (.int j) H (.bl (decide (i ≤ j))) := rv_I0
end
/-- what a def gives that leaves nothing but new objects behind -/
def RetP (P : V → Hp → Prop) (H : Hp) (Q : VK) : Prop := ∀ v H', Ex H H' → P v H' → Q v H'
end E60
/-! the mathematics: texts of values, two readers -/
namespace E60
open PySem L2 SX PySem.NumText
abbrev Cs := List Nat
def isLow (c : Nat) : Bool := decide (97 ≤ c) && decide (c ≤ 122)
def isDig (c : Nat) : Bool := decide (48 ≤ c) && decide (c ≤ 57)
def isSg (c : Nat) : Bool := decide (c = 45) || isDig c
def isNm (s : Cs) : Bool := decide (1 ≤ s.length) && decide (s.length ≤ 8) && s.all isLow
def digs (t : Cs) : Cs := if t.take 1 = [45] then t.drop 1 else t
def isNumb (t : Cs) (most : Nat) : Bool :=
  (decide (1 ≤ (digs t).length) && decide ((digs t).length ≤ most)) && (digs t).all isDig && (!decide ((digs t).head? = some 48) || decide (t = [48]))
def intC (n : Int) : Cs := if n < 0 then 45 :: TL.numL n.natAbs else TL.numL n.natAbs
def intOf (t : Cs) : Int := (intText? (S t)).getD 0
def sgs : List Cs := [[43], [45], [42], [47, 47], [109, 111, 100], [38], [124], [61], [60]]
def dvs : List Cs := [[47, 47], [109, 111, 100]]
inductive Vl where
  | nm (s : Cs)
  | nw (s : Cs)
  | ps
  | num (n : Int)
  | neg (v : Vl)
  | bin (g : Cs) (a b : Vl)
def showC : Vl → Cs
  | .nm s => s
  | .nw s => 33 :: s
  | .ps => [63]
  | .num n => intC n
  | .neg v => 126 :: showC v
  | .bin g a b => 40 :: (showC a ++ 32 :: (g ++ 32 :: (showC b ++ [41])))
def dep (s : Cs) : Nat := s.count 40 + s.count 126
theorem dep_nil : dep [] = 0 := rfl
theorem dep_cons (c : Nat) (s : Cs) : dep (c :: s) = dep s + (if c = 40 then 1 else 0) + (if c = 126 then 1 else 0) := by
  unfold dep
  rw [List.count_cons, List.count_cons]
  by_cases h : c = 40
  · subst h; simp; omega
  · by_cases h2 : c = 126
    · subst h2; simp; omega
    · simp [h, h2]
theorem dep_app (a b : Cs) : dep (a ++ b) = dep a + dep b := by
  unfold dep; rw [List.count_append, List.count_append]; omega
theorem dep_le_of_sub {a b : Cs} (h : a.Sublist b) : dep a ≤ dep b := by
  unfold dep
  have := h.count_le 40
  have := h.count_le 126
  omega
/-! ### pieces between spaces that stand in no brackets -/
def net (p : Cs) : Int := (p.count 40 : Int) - (p.count 41 : Int)
def swStep (st : List Cs × Int) (p : Cs) : List Cs × Int :=
  (if st.2 > 0 then st.1.dropLast ++ [st.1.getLastD [] ++ 32 :: p] else st.1 ++ [p], st.2 + (p.count 40 : Int) - (p.count 41 : Int))
def swords (t : Cs) : List Cs := ((TL.spl [32] 0 [] t).foldl swStep ([], 0)).1
def sw (cur : Cs) (D : Int) : Cs → List Cs
  | [] => [cur]
  | c :: r => if c = 32 then (if D > 0 then sw (cur ++ [32]) D r else cur :: sw [] D r) else sw (cur ++ [c]) (D + net [c]) r
theorem net_app (a b : Cs) : net (a ++ b) = net a + net b := by
  unfold net; rw [List.count_append, List.count_append]; omega
theorem pre32 (c : Nat) (r : Cs) : TL.pre [32] (c :: r) = decide (c = 32) := by
  show (([c] : List Nat) == [32]) = decide (c = 32)
  by_cases h : c = 32
  · subst h; rfl
  · rw [decide_eq_false h]
    exact beq_eq_false_iff_ne.mpr (fun e => h (List.cons.inj e).1)
theorem sw_sp (cur : Cs) (D : Int) (r : Cs) : sw cur D (32 :: r) = if D > 0 then sw (cur ++ [32]) D r else cur :: sw [] D r := rfl
theorem sw_ch {c : Nat} (h : c ≠ 32) (cur : Cs) (D : Int) (r : Cs) : sw cur D (c :: r) = sw (cur ++ [c]) (D + net [c]) r := if_neg h
theorem swords_go : ∀ (l part : Cs) (P : List Cs) (D : Int), (D > 0 → P ≠ []) →
    ((TL.spl [32] 0 part l).foldl swStep (P, D)).1 = if D > 0 then P.dropLast ++ sw (P.getLastD [] ++ 32 :: part) (D + net part) l else P ++ sw part (D + net part) l
  | [], part, P, D, h => by
    rw [TL.spl_nil]
    show (swStep (P, D) part).1 = _
    unfold swStep sw
    by_cases hD : D > 0 <;> simp [hD]
  | c :: r, part, P, D, h => by
    by_cases hc : c = 32
    · subst hc
      rw [TL.spl_hit (by rw [pre32]; rfl)]
      rw [List.foldl_cons]
      have e1 : (swStep (P, D) part).2 = D + net part := by unfold swStep net; simp; omega
      have ne : (swStep (P, D) part).1 ≠ [] := by
        unfold swStep
        by_cases hD : D > 0 <;> simp [hD]
      have e0 : swStep (P, D) part = ((swStep (P, D) part).1, D + net part) := by rw [← e1]
      rw [e0]
      show ((TL.spl [32] 0 [] r).foldl swStep _).1 = _
      rw [swords_go r [] (swStep (P, D) part).1 (D + net part) (fun _ => ne)]
      have nn : net [] = 0 := rfl
      rw [nn, Int.add_zero]
      rw [sw_sp, sw_sp]
      unfold swStep
      by_cases hD : D > 0
      · rw [if_pos hD, if_pos hD]
        by_cases h2 : D + net part > 0
        · rw [if_pos h2, if_pos h2]; simp
        · rw [if_neg h2, if_neg h2]; simp
      · rw [if_neg hD, if_neg hD]
        by_cases h2 : D + net part > 0
        · rw [if_pos h2, if_pos h2]; simp
        · rw [if_neg h2, if_neg h2]; simp
    · rw [TL.spl_miss (by rw [pre32]; exact decide_eq_false hc)]
      rw [swords_go r (part ++ [c]) P D h, net_app]
      rw [sw_ch hc, sw_ch hc]
      have : D + (net part + net [c]) = D + net part + net [c] := by omega
      rw [this]
      simp
theorem swords_eq (t : Cs) : swords t = sw [] 0 t := by
  unfold swords
  rw [swords_go t [] [] 0 (fun h => absurd h (by decide))]
  simp [net]
theorem sw_dep : ∀ (l cur : Cs) (D : Int) (p : Cs), p ∈ sw cur D l → dep p ≤ dep cur + dep l
  | [], cur, D, p, h => by
    unfold sw at h
    rw [List.mem_singleton] at h
    subst h; rw [dep_nil]; omega
  | c :: r, cur, D, p, h => by
    unfold sw at h
    rw [dep_cons]
    split at h
    · split at h
      · have := sw_dep r _ _ p h
        rw [dep_app] at this
        have e : dep [32] = 0 := rfl
        omega
      · rcases List.mem_cons.mp h with h | h
        · subst h; omega
        · have := sw_dep r _ _ p h
          rw [dep_nil] at this
          omega
    · have := sw_dep r _ _ p h
      rw [dep_app, dep_cons, dep_nil] at this
      omega
theorem sw_len : ∀ (l cur : Cs) (D : Int) (p : Cs), p ∈ sw cur D l → p.length ≤ cur.length + l.length
  | [], cur, D, p, h => by
    unfold sw at h
    rw [List.mem_singleton] at h
    subst h; simp
  | c :: r, cur, D, p, h => by
    unfold sw at h
    rw [List.length_cons]
    split at h
    · split at h
      · have := sw_len r _ _ p h
        rw [List.length_append, List.length_singleton] at this
        omega
      · rcases List.mem_cons.mp h with h | h
        · subst h; omega
        · have := sw_len r _ _ p h
          rw [List.length_nil] at this
          omega
    · have := sw_len r _ _ p h
      rw [List.length_append, List.length_singleton] at this
      omega

/-! ### numbers as texts -/
theorem isDig_iff {c : Nat} : isDig c = true ↔ 48 ≤ c ∧ c ≤ 57 := by unfold isDig; rw [Bool.and_eq_true, decide_eq_true_eq, decide_eq_true_eq]
theorem isLow_iff {c : Nat} : isLow c = true ↔ 97 ≤ c ∧ c ≤ 122 := by unfold isLow; rw [Bool.and_eq_true, decide_eq_true_eq, decide_eq_true_eq]
theorem numL_dig (n : Nat) : ∀ c ∈ TL.numL n, 48 ≤ c ∧ c ≤ 57 := fun c hc => by
  refine ⟨Classical.byContradiction fun h => TL.numL_free (n := n) (s := c) (.inl (by omega)) hc, Classical.byContradiction fun h => TL.numL_free (n := n) (s := c) (.inr (by omega)) hc⟩
theorem numL_zero : TL.numL 0 = [48] := TL.numL_lt (by decide)
theorem numL_head {n : Nat} (h : 0 < n) : (TL.numL n).head? ≠ some 48 := by
  by_cases h10 : n < 10
  · rw [TL.numL_lt h10]
    intro e
    have := Option.some.inj e
    omega
  · rw [TL.numL_step (by omega)]
    have ih := numL_head (n := n / 10) (by omega)
    intro e
    apply ih
    have ne := TL.numL_ne (n / 10)
    cases hh : TL.numL (n / 10) with
    | nil => exact absurd hh ne
    | cons a b => rw [hh] at e; exact e
termination_by n
decreasing_by omega
/-- canonical digits are the digits of a number -/
theorem numL_of : ∀ (k : Nat) (l : Cs), l.length = k → l ≠ [] → (∀ c ∈ l, 48 ≤ c ∧ c ≤ 57) → (l.head? ≠ some 48 ∨ l = [48]) → ∃ n, TL.numL n = l
  | 0, l, hk, ne, _, _ => absurd (List.length_eq_zero_iff.mp hk) ne
  | 1, l, hk, ne, hd, hh => by
    match l, hk with
    | [c], _ =>
      have := hd c (List.mem_singleton.mpr rfl)
      refine ⟨c - 48, ?_⟩
      rw [TL.numL_lt (by omega)]
      have : 48 + (c - 48) = c := by omega
      rw [this]
  | k + 2, l, hk, ne, hd, hh => by
    have e := List.dropLast_concat_getLast ne
    have hl : l.dropLast.length = k + 1 := by rw [List.length_dropLast]; omega
    have ne' : l.dropLast ≠ [] := by intro q; rw [q] at hl; simp at hl
    have h1 : l.head? ≠ some 48 := by
      rcases hh with h | h
      · exact h
      · rw [h] at hk; simp at hk
    have h2 : l.dropLast.head? = l.head? := by
      conv => rhs; rw [← e]
      cases hq : l.dropLast with
      | nil => exact absurd hq ne'
      | cons a b => rfl
    obtain ⟨m, hm⟩ := numL_of (k + 1) l.dropLast hl ne' (fun c hc => hd c (List.dropLast_subset _ hc)) (.inl (by rw [h2]; exact h1))
    have hlast := hd _ (List.getLast_mem ne)
    have hpos : 0 < m := by
      rcases Nat.eq_zero_or_pos m with q | q
      · subst q
        rw [numL_zero] at hm
        rw [← hm] at h2
        exact absurd h2.symm h1
      · exact q
    refine ⟨m * 10 + (l.getLast ne - 48), ?_⟩
    rw [TL.numL_step (by omega)]
    have e1 : (m * 10 + (l.getLast ne - 48)) / 10 = m := by omega
    have e2 : 48 + (m * 10 + (l.getLast ne - 48)) % 10 = l.getLast ne := by omega
    rw [e1, e2, hm]
    exact e
theorem int_pos {n : Nat} (h : (TL.numL n).length ≤ 4300) : intText? (S (TL.numL n)) = some (n : Int) := by
  rw [← num_S]; exact TL.int_num h
theorem alldig {l : Cs} (h : ∀ c ∈ l, 48 ≤ c ∧ c ≤ 57) : NumText.AllDigits l := h
theorem int_neg {n : Nat} (h : (TL.numL n).length ≤ 4200) : intText? (S (45 :: TL.numL n)) = some (-(n : Int)) := by
  have := intText_neg (x := S (45 :: TL.numL n)) (cs := TL.numL n) rfl (alldig (numL_dig n)) (TL.numL_ne n) (by rw [S_len, List.length_cons]; omega)
  rw [this, TL.numL_val]
theorem intC_text {n : Int} (h : (TL.numL n.natAbs).length ≤ 640) : intText? (S (intC n)) = some n := by
  unfold intC
  by_cases hn : n < 0
  · rw [if_pos hn, int_neg (by omega)]
    congr 1; omega
  · rw [if_neg hn, int_pos (by omega)]
    congr 1; omega
theorem intC_of (n : Int) {t : Cs} (h : intC n = t) (hl : (TL.numL n.natAbs).length ≤ 640) : intOf t = n := by
  unfold intOf; rw [← h, intC_text hl]; rfl
theorem numL_ne45 (n : Nat) : (TL.numL n).take 1 ≠ [45] := fun e => by
  have ne := TL.numL_ne n
  cases hh : TL.numL n with
  | nil => exact ne hh
  | cons a b =>
    rw [hh] at e
    have ha : a = 45 := by simpa using e
    have := numL_dig n a (by rw [hh]; simp)
    omega
theorem digs_int (n : Int) : digs (intC n) = TL.numL n.natAbs := by
  unfold digs intC
  by_cases hn : n < 0
  · rw [if_pos hn, if_pos (by simp)]; simp
  · rw [if_neg hn, if_neg (numL_ne45 _)]
theorem all_dig {l : Cs} : l.all isDig = true ↔ ∀ c ∈ l, 48 ≤ c ∧ c ≤ 57 := by
  rw [List.all_eq_true]
  exact forall_congr' fun c => imp_congr_right fun _ => isDig_iff
/-- a number's own text is one -/
theorem numb_int {n : Int} {k : Nat} (h : (TL.numL n.natAbs).length ≤ k) : isNumb (intC n) k = true := by
  unfold isNumb
  rw [digs_int]
  have ne := TL.numL_ne n.natAbs
  have h1 : 1 ≤ (TL.numL n.natAbs).length := Nat.pos_of_ne_zero fun q => ne (List.length_eq_zero_iff.mp q)
  rw [decide_eq_true h1, decide_eq_true h, all_dig.mpr (numL_dig _)]
  by_cases h0 : n.natAbs = 0
  · have : n = 0 := by omega
    subst this
    have : intC 0 = [48] := by unfold intC; rw [if_neg (by decide)]; exact numL_zero
    rw [this]; simp
  · rw [decide_eq_false (numL_head (by omega))]; rfl
/-- and no other text is -/
theorem numb_of {t : Cs} {k : Nat} (hk : k ≤ 640) (h : isNumb t k = true) : ∃ n : Int, intC n = t ∧ (TL.numL n.natAbs).length ≤ k ∧ intOf t = n := by
  unfold isNumb at h
  rw [Bool.and_eq_true, Bool.and_eq_true, Bool.and_eq_true, decide_eq_true_eq, decide_eq_true_eq] at h
  obtain ⟨⟨⟨h1, h2⟩, h3⟩, h4⟩ := h
  have hd := all_dig.mp h3
  have ne : digs t ≠ [] := fun q => by rw [q] at h1; simp at h1
  have h4' : (digs t).head? ≠ some 48 ∨ t = [48] := by
    rw [Bool.or_eq_true, Bool.not_eq_true', decide_eq_false_iff_not, decide_eq_true_eq] at h4
    exact h4
  by_cases hm : t.take 1 = [45]
  · have e : digs t = t.drop 1 := if_pos hm
    rw [e] at h1 h2 hd ne h4'
    have et : t = 45 :: t.drop 1 := by
      have := List.take_append_drop 1 t
      rw [hm] at this
      exact this.symm
    have h5 : (t.drop 1).head? ≠ some 48 := by
      rcases h4' with h | h
      · exact h
      · rw [h] at hm; simp at hm
    obtain ⟨m, hmm⟩ := numL_of _ (t.drop 1) rfl ne hd (.inl h5)
    have hpos : 0 < m := by
      rcases Nat.eq_zero_or_pos m with q | q
      · subst q
        rw [← hmm, numL_zero] at h5
        exact absurd rfl h5
      · exact q
    have hi : intC (-(m : Int)) = t := by
      unfold intC
      rw [if_pos (by omega)]
      have : (-(m : Int)).natAbs = m := by omega
      rw [this, hmm]; exact et.symm
    have hlen : (TL.numL (-(m : Int)).natAbs).length ≤ k := by
      have : (-(m : Int)).natAbs = m := by omega
      rw [this, hmm]; exact h2
    exact ⟨-(m : Int), hi, hlen, intC_of _ hi (by omega)⟩
  · have e : digs t = t := if_neg hm
    rw [e] at h1 h2 hd ne h4'
    obtain ⟨m, hmm⟩ := numL_of _ t rfl ne hd h4'
    have hi : intC (m : Int) = t := by
      unfold intC
      rw [if_neg (by omega)]
      exact hmm
    have hlen : (TL.numL (m : Int).natAbs).length ≤ k := by
      show (TL.numL m).length ≤ k
      rw [hmm]; exact h2
    exact ⟨m, hi, hlen, intC_of _ hi (by omega)⟩
end E60
/-! the two readers -/
namespace E60
open PySem L2 SX
def isNumV : Vl → Bool
  | .num n => decide (1 ≤ n)
  | _ => false
def vin : Nat → Cs → Option Vl
  | 0, _ => none
  | n + 1, t =>
    if t = [63] then some .ps
    else if isNm t = true then some (.nm t)
    else if t.take 1 = [33] ∧ isNm (t.drop 1) = true then some (.nw (t.drop 1))
    else if isNumb t 20 = true then some (.num (intOf t))
    else if t.take 1 = [126] then (match vin n (t.drop 1) with | none => none | some v => some (.neg v))
    else if t.take 1 ≠ [40] ∨ t.drop (t.length - 1) ≠ [41] ∨ (swords (t.drop 1).dropLast).length ≠ 3 ∨ (swords (t.drop 1).dropLast).getD 1 [] ∉ sgs then none
    else match vin n ((swords (t.drop 1).dropLast).getD 0 []), vin n ((swords (t.drop 1).dropLast).getD 2 []) with
      | some a, some b => if (swords (t.drop 1).dropLast).getD 1 [] ∈ dvs ∧ isNumV b = false then none else some (.bin ((swords (t.drop 1).dropLast).getD 1 []) a b)
      | _, _ => none
def nameEat (s : Cs) : Option Cs := if 1 ≤ (s.takeWhile isLow).length ∧ (s.takeWhile isLow).length < 9 then some (s.dropWhile isLow) else none
def not32 (c : Nat) : Bool := !decide (c = 32)
def eat : Nat → Cs → Option Cs
  | 0, _ => none
  | _ + 1, [] => none
  | n + 1, c :: s =>
    if c = 63 then some s
    else if c = 126 then eat n s
    else if c = 33 then nameEat s
    else if c ≠ 40 then
      if isLow c = true then nameEat (c :: s)
      else if isNumb ((c :: s).takeWhile isSg) 20 = true then some ((c :: s).dropWhile isSg) else none
    else match eat n s with
      | none => none
      | some r =>
        if r.take 1 ≠ [32] then none
        else if (r.drop 1).takeWhile not32 ∉ sgs ∨ ((r.drop 1).dropWhile not32).take 1 ≠ [32] then none
        else match eat n (((r.drop 1).dropWhile not32).drop 1) with
          | none => none
          | some r3 =>
            if (r.drop 1).takeWhile not32 ∈ dvs ∧ (isNumb ((((r.drop 1).dropWhile not32).drop 1).take ((((r.drop 1).dropWhile not32).drop 1).length - r3.length)) 20 = false ∨ intOf ((((r.drop 1).dropWhile not32).drop 1).take ((((r.drop 1).dropWhile not32).drop 1).length - r3.length)) < 1) then none
            else if r3.take 1 = [41] then some (r3.drop 1) else none
def Wf : Vl → Prop
  | .nm s => isNm s = true
  | .nw s => isNm s = true
  | .ps => True
  | .num n => (TL.numL n.natAbs).length ≤ 20
  | .neg v => Wf v
  | .bin g a b => g ∈ sgs ∧ Wf a ∧ Wf b ∧ (g ∈ dvs → isNumV b = true)
theorem isNm_iff {s : Cs} : isNm s = true ↔ 1 ≤ s.length ∧ s.length ≤ 8 ∧ ∀ c ∈ s, 97 ≤ c ∧ c ≤ 122 := by
  unfold isNm
  rw [Bool.and_eq_true, Bool.and_eq_true, decide_eq_true_eq, decide_eq_true_eq, List.all_eq_true]
  constructor
  · rintro ⟨⟨a, b⟩, c⟩
    exact ⟨a, b, fun d hd => isLow_iff.mp (c d hd)⟩
  · rintro ⟨a, b, c⟩
    exact ⟨⟨a, b⟩, fun d hd => isLow_iff.mpr (c d hd)⟩
theorem take1 {s : Cs} {c : Nat} (h : s.take 1 = [c]) : s = c :: s.drop 1 := by
  have := List.take_append_drop 1 s
  rw [h] at this
  exact this.symm
theorem nm_head {c : Nat} {s : Cs} (h : isNm (c :: s) = true) : 97 ≤ c ∧ c ≤ 122 := (isNm_iff.mp h).2.2 c List.mem_cons_self
/-- the first reader gives what is well made -/
theorem vin_wf : ∀ (n : Nat) (t : Cs) (v : Vl), vin n t = some v → Wf v
  | 0, _, _, h => by unfold vin at h; cases h
  | n + 1, t, v, h => by
    unfold vin at h
    split at h
    · cases h; exact trivial
    split at h
    · rename_i h1
      cases h; exact h1
    split at h
    · rename_i h1
      cases h; exact h1.2
    split at h
    · rename_i h1
      cases h
      obtain ⟨m, e, hl, hi⟩ := numb_of (by decide) h1
      show (TL.numL (intOf t).natAbs).length ≤ 20
      rw [hi]; exact hl
    split at h
    · split at h
      · cases h
      · rename_i hv
        cases h
        have q := vin_wf n _ _ hv
        exact q
    split at h
    · cases h
    · rename_i hn
      split at h
      · rename_i a b ha hb
        split at h
        · cases h
        · rename_i hd
          cases h
          refine ⟨?_, vin_wf n _ _ ha, vin_wf n _ _ hb, fun hg => ?_⟩
          · exact Classical.byContradiction fun q => hn (.inr (.inr (.inr q)))
          · cases q : isNumV b with
            | true => rfl
            | false => exact absurd ⟨hg, q⟩ hd
      · cases h
/-! ### what well made values look like -/
theorem intC_cases (n : Int) : ∃ c s, intC n = c :: s ∧ (c = 45 ∨ (48 ≤ c ∧ c ≤ 57)) ∧ ∀ d ∈ intC n, d = 45 ∨ (48 ≤ d ∧ d ≤ 57) := by
  have ne := TL.numL_ne n.natAbs
  have hd := numL_dig n.natAbs
  unfold intC
  by_cases hn : n < 0
  · rw [if_pos hn]
    refine ⟨45, _, rfl, .inl rfl, fun d h => ?_⟩
    rcases List.mem_cons.mp h with h | h
    · exact .inl h
    · exact .inr (hd d h)
  · rw [if_neg hn]
    cases hh : TL.numL n.natAbs with
    | nil => exact absurd hh ne
    | cons a b =>
      rw [hh] at hd
      exact ⟨a, b, rfl, .inr (hd a List.mem_cons_self), fun d h => .inr (hd d h)⟩
theorem isSg_iff {c : Nat} : isSg c = true ↔ c = 45 ∨ (48 ≤ c ∧ c ≤ 57) := by
  unfold isSg; rw [Bool.or_eq_true, decide_eq_true_eq, isDig_iff]
theorem sgs_no {g : Cs} (h : g ∈ sgs) : (∀ c ∈ g, c ≠ 32 ∧ c ≠ 40 ∧ c ≠ 41 ∧ c ≠ 126) ∧ g.length ≤ 3 := by
  have : ∀ g ∈ sgs, (∀ c ∈ g, c ≠ 32 ∧ c ≠ 40 ∧ c ≠ 41 ∧ c ≠ 126) ∧ g.length ≤ 3 := by decide
  exact this g h
theorem dep_of_no {s : Cs} (h : ∀ c ∈ s, c ≠ 40 ∧ c ≠ 126) : dep s = 0 := by
  unfold dep
  rw [List.count_eq_zero.mpr fun q => (h _ q).1 rfl, List.count_eq_zero.mpr fun q => (h _ q).2 rfl]
theorem net_of_no {s : Cs} (h : ∀ c ∈ s, c ≠ 40 ∧ c ≠ 41) : net s = 0 := by
  unfold net
  rw [List.count_eq_zero.mpr fun q => (h _ q).1 rfl, List.count_eq_zero.mpr fun q => (h _ q).2 rfl]; rfl
/-- signs without spaces and brackets go into the piece -/
theorem sw_plain : ∀ (s r cur : Cs) (D : Int), (∀ c ∈ s, c ≠ 32 ∧ c ≠ 40 ∧ c ≠ 41) → sw cur D (s ++ r) = sw (cur ++ s) D r
  | [], r, cur, D, _ => by simp
  | c :: s, r, cur, D, h => by
    have hc := h c List.mem_cons_self
    have hn : net [c] = 0 := net_of_no (by intro d hd; rw [List.mem_singleton] at hd; subst hd; exact hc.2)
    rw [List.cons_append, sw_ch hc.1, hn, Int.add_zero, sw_plain s r _ D (fun d hd => h d (List.mem_cons_of_mem _ hd))]
    simp
theorem nm_plain {s : Cs} (h : isNm s = true) : ∀ c ∈ s, c ≠ 32 ∧ c ≠ 40 ∧ c ≠ 41 := fun c hc => by
  have := (isNm_iff.mp h).2.2 c hc
  omega
theorem int_plain (n : Int) : ∀ c ∈ intC n, c ≠ 32 ∧ c ≠ 40 ∧ c ≠ 41 := fun c hc => by
  obtain ⟨_, _, _, _, h⟩ := intC_cases n
  have := h c hc
  omega
theorem sw_show : ∀ (v : Vl), Wf v → ∀ (r cur : Cs) (D : Int), 0 ≤ D → sw cur D (showC v ++ r) = sw (cur ++ showC v) D r
  | .nm s, h, r, cur, D, _ => sw_plain s r cur D (nm_plain h)
  | .nw s, h, r, cur, D, _ => sw_plain (33 :: s) r cur D (by
      intro c hc
      rcases List.mem_cons.mp hc with e | e
      · omega
      · exact nm_plain h c e)
  | .ps, _, r, cur, D, _ => sw_plain [63] r cur D (by decide)
  | .num n, _, r, cur, D, _ => sw_plain (intC n) r cur D (int_plain n)
  | .neg v, h, r, cur, D, hD => by
    show sw cur D (126 :: showC v ++ r) = _
    rw [List.cons_append, sw_ch (by decide)]
    have : net [126] = 0 := rfl
    rw [this, Int.add_zero, sw_show v h r _ D hD]
    simp [showC]
  | .bin g a b, ⟨hg, ha, hb, _⟩, r, cur, D, hD => by
    have e : showC (.bin g a b) ++ r = 40 :: (showC a ++ (32 :: (g ++ (32 :: (showC b ++ (41 :: r)))))) := by simp [showC]
    rw [e, sw_ch (by decide)]
    have n1 : net [40] = 1 := rfl
    have n2 : net [41] = -1 := rfl
    rw [n1, sw_show a ha _ _ (D + 1) (by omega), sw_sp, if_pos (by omega), sw_plain g _ _ _ (fun c hc => ⟨((sgs_no hg).1 c hc).1, ((sgs_no hg).1 c hc).2.1, ((sgs_no hg).1 c hc).2.2.1⟩), sw_sp, if_pos (by omega), sw_show b hb _ _ (D + 1) (by omega), sw_ch (by decide), n2]
    have : D + 1 + -1 = D := by omega
    rw [this]
    congr 1
    simp [showC]
theorem swords_bin {g : Cs} {a b : Vl} (hg : g ∈ sgs) (ha : Wf a) (hb : Wf b) : swords (showC a ++ 32 :: (g ++ 32 :: showC b)) = [showC a, g, showC b] := by
  rw [swords_eq, sw_show a ha _ _ 0 (Int.le_refl 0), sw_sp, if_neg (by decide), sw_plain g _ _ _ (fun c hc => ⟨((sgs_no hg).1 c hc).1, ((sgs_no hg).1 c hc).2.1, ((sgs_no hg).1 c hc).2.2.1⟩), sw_sp, if_neg (by decide)]
  have := sw_show b hb [] [] 0 (Int.le_refl 0)
  rw [List.append_nil] at this
  rw [this]
  simp [sw]

theorem tk1 {c d : Nat} {s : Cs} (q : (c :: s).take 1 = [d]) : c = d := by simpa using q
theorem nb_ne {c : Nat} {s : Cs} (h : ¬ (c = 45 ∨ (48 ≤ c ∧ c ≤ 57))) : ¬ isNumb (c :: s) 20 = true := fun q => by
  obtain ⟨k, e, _⟩ := numb_of (by decide) q
  obtain ⟨c', s', e2, hc, _⟩ := intC_cases k
  rw [e2] at e
  have := (List.cons.inj e).1
  subst this
  exact h hc
/-- the first reader reads what is well made -/
theorem vin_show : ∀ (v : Vl) (n : Nat), Wf v → dep (showC v) < n → vin n (showC v) = some v
  | _, 0, _, h => absurd h (Nat.not_lt_zero _)
  | .nm s, n + 1, h, _ => by
    have h' : isNm s = true := h
    show vin (n + 1) s = _
    unfold vin
    rw [if_neg (by intro e; subst e; exact absurd h' (by decide)), if_pos h']
  | .nw s, n + 1, h, _ => by
    have h' : isNm s = true := h
    show vin (n + 1) (33 :: s) = _
    unfold vin
    rw [if_neg (by intro e; exact absurd (List.cons.inj e).1 (by decide)), if_neg (by intro q; have := nm_head q; omega), if_pos ⟨by simp, by simpa using h'⟩]
    simp
  | .ps, n + 1, _, _ => by
    show vin (n + 1) [63] = _
    unfold vin
    rw [if_pos rfl]
  | .num k, n + 1, h, _ => by
    have h' : (TL.numL k.natAbs).length ≤ 20 := h
    obtain ⟨c, s, e, hc, _⟩ := intC_cases k
    show vin (n + 1) (intC k) = _
    unfold vin
    rw [if_neg (by rw [e]; intro q; have := (List.cons.inj q).1; omega), if_neg (by rw [e]; intro q; have := nm_head q; omega), if_neg (by rw [e]; rintro ⟨q, _⟩; have := tk1 q; omega), if_pos (numb_int h'), intC_of k rfl (by omega)]
  | .neg v, n + 1, h, hd => by
    have h' : Wf v := h
    show vin (n + 1) (126 :: showC v) = _
    have hd' : dep (126 :: showC v) < n + 1 := hd
    rw [dep_cons] at hd'
    simp only [if_true, show ¬ (126 = 40) by decide, if_false] at hd'
    unfold vin
    rw [if_neg (by intro q; have := (List.cons.inj q).1; omega), if_neg (by intro q; have := nm_head q; omega), if_neg (by rintro ⟨q, _⟩; have := tk1 q; omega),
      if_neg (nb_ne (by omega)), if_pos (by simp)]
    have q := vin_show v n h' (by omega)
    rw [List.drop_one, List.tail_cons, q]
  | .bin g a b, n + 1, ⟨hg, ha, hb, hv⟩, hd => by
    have e : showC (.bin g a b) = 40 :: ((showC a ++ 32 :: (g ++ 32 :: showC b)) ++ [41]) := by simp [showC]
    rw [e] at hd ⊢
    rw [dep_cons, dep_app, dep_app, dep_cons, dep_app, dep_cons] at hd
    simp only [if_true, show ¬ (40 = 126) by decide, if_false] at hd
    unfold vin
    have e1 : ((40 :: ((showC a ++ 32 :: (g ++ 32 :: showC b)) ++ [41])).drop 1).dropLast = showC a ++ 32 :: (g ++ 32 :: showC b) := by
      rw [List.drop_one, List.tail_cons, List.dropLast_concat]
    have e2 : (40 :: ((showC a ++ 32 :: (g ++ 32 :: showC b)) ++ [41])).drop ((40 :: ((showC a ++ 32 :: (g ++ 32 :: showC b)) ++ [41])).length - 1) = [41] := by
      generalize showC a ++ 32 :: (g ++ 32 :: showC b) = u
      rw [List.length_cons, List.length_append, List.length_singleton]
      have : u.length + 1 + 1 - 1 = u.length + 1 := by omega
      rw [this, List.drop_succ_cons, List.drop_left]
    rw [e1, swords_bin hg ha hb, e2]
    rw [if_neg (by intro q; have := (List.cons.inj q).1; omega), if_neg (by intro q; have := nm_head q; omega), if_neg (by rintro ⟨q, _⟩; have := tk1 q; omega),
      if_neg (nb_ne (by omega)), if_neg (by intro q; have := tk1 q; omega), if_neg (by
        rintro (q | q | q | q)
        · exact q (by simp)
        · exact q rfl
        · exact q rfl
        · exact q hg)]
    have qa := vin_show a n ha (by omega)
    have qb := vin_show b n hb (by omega)
    show (match vin n ([showC a, g, showC b].getD 0 []), vin n ([showC a, g, showC b].getD 2 []) with | some a, some b => if g ∈ dvs ∧ isNumV b = false then none else some (Vl.bin g a b) | _, _ => none) = _
    rw [show [showC a, g, showC b].getD 0 [] = showC a from rfl, show [showC a, g, showC b].getD 2 [] = showC b from rfl, qa, qb]
    show (if g ∈ dvs ∧ isNumV b = false then none else some (Vl.bin g a b)) = _
    rw [if_neg (by rintro ⟨q1, q2⟩; rw [hv q1] at q2; cases q2)]
end E60
namespace E60
open PySem L2 SX
/-- what may stand behind a value -/
def Dl (r : Cs) : Prop := ∀ c, r.head? = some c → c = 32 ∨ c = 41
theorem dl_nil : Dl [] := fun _ h => by simp at h
theorem dl_32 (r : Cs) : Dl (32 :: r) := fun c h => .inl (Option.some.inj h).symm
theorem dl_41 (r : Cs) : Dl (41 :: r) := fun c h => .inr (Option.some.inj h).symm
theorem tw_app {p : Nat → Bool} {s r : Cs} (hs : ∀ c ∈ s, p c = true) (hr : ∀ c, r.head? = some c → p c = false) : (s ++ r).takeWhile p = s ∧ (s ++ r).dropWhile p = r := by
  induction s with
  | nil =>
    cases r with
    | nil => exact ⟨rfl, rfl⟩
    | cons c t =>
      have := hr c rfl
      rw [List.nil_append, List.takeWhile_cons, List.dropWhile_cons, this]
      exact ⟨rfl, rfl⟩
  | cons c s ih =>
    have := hs c List.mem_cons_self
    have ih' := ih fun d hd => hs d (List.mem_cons_of_mem _ hd)
    rw [List.cons_append, List.takeWhile_cons, List.dropWhile_cons, this]
    exact ⟨by rw [if_pos rfl, ih'.1], by rw [if_pos rfl, ih'.2]⟩
theorem nameEat_show {s r : Cs} (h : isNm s = true) (hr : Dl r) : nameEat (s ++ r) = some r := by
  obtain ⟨h1, h2, h3⟩ := isNm_iff.mp h
  obtain ⟨e1, e2⟩ := tw_app (p := isLow) (s := s) (r := r) (fun c hc => isLow_iff.mpr (h3 c hc)) (fun c hc => by
    rcases hr c hc with e | e <;> subst e <;> rfl)
  unfold nameEat
  rw [e1, e2, if_pos ⟨h1, by omega⟩]
theorem low_ne {c : Nat} (h : 97 ≤ c ∧ c ≤ 122) : c ≠ 63 ∧ c ≠ 126 ∧ c ≠ 33 ∧ c ≠ 40 := by omega
theorem sgs_not32 {g : Cs} (hg : g ∈ sgs) : ∀ c ∈ g, not32 c = true := fun c hc => by
  unfold not32
  rw [decide_eq_false ((sgs_no hg).1 c hc).1]; rfl
theorem numV_of {v : Vl} (h : isNumV v = true) : ∃ n, v = .num n ∧ 1 ≤ n := by
  cases v with
  | num n => exact ⟨n, rfl, of_decide_eq_true h⟩
  | _ => cases h
theorem eat_show : ∀ (v : Vl) (n : Nat) (r : Cs), Wf v → Dl r → dep (showC v) < n → eat n (showC v ++ r) = some r
  | _, 0, _, _, _, h => absurd h (Nat.not_lt_zero _)
  | .nm s, n + 1, r, h, hr, _ => by
    have h' : isNm s = true := h
    cases s with
    | nil => exact absurd h' (by decide)
    | cons c t =>
      have hl := nm_head h'
      have hn := low_ne hl
      show eat (n + 1) (c :: (t ++ r)) = _
      unfold eat
      rw [if_neg hn.1, if_neg hn.2.1, if_neg hn.2.2.1, if_pos hn.2.2.2, if_pos (isLow_iff.mpr hl)]
      exact nameEat_show h' hr
  | .nw s, n + 1, r, h, hr, _ => by
    have h' : isNm s = true := h
    show eat (n + 1) (33 :: (s ++ r)) = _
    unfold eat
    rw [if_neg (by decide), if_neg (by decide), if_pos rfl]
    exact nameEat_show h' hr
  | .ps, n + 1, r, _, _, _ => by
    show eat (n + 1) (63 :: r) = _
    unfold eat
    rw [if_pos rfl]
  | .num k, n + 1, r, h, hr, _ => by
    have h' : (TL.numL k.natAbs).length ≤ 20 := h
    obtain ⟨c, s, e, hc, ha⟩ := intC_cases k
    obtain ⟨e1, e2⟩ := tw_app (p := isSg) (s := intC k) (r := r) (fun c hc => isSg_iff.mpr (ha c hc)) (fun c hc => by
      rcases hr c hc with e | e <;> subst e <;> rfl)
    show eat (n + 1) (intC k ++ r) = _
    rw [e] at e1 e2 ⊢
    rw [List.cons_append] at e1 e2 ⊢
    unfold eat
    have hl : ¬ isLow c = true := fun q => by have := isLow_iff.mp q; omega
    rw [if_neg (by omega), if_neg (by omega), if_neg (by omega), if_pos (by omega), if_neg hl, e1, e2, ← e, if_pos (numb_int h')]
  | .neg v, n + 1, r, h, hr, hd => by
    have h' : Wf v := h
    have hd' : dep (126 :: showC v) < n + 1 := hd
    rw [dep_cons] at hd'
    simp only [if_true, show ¬ (126 = 40) by decide, if_false] at hd'
    show eat (n + 1) (126 :: (showC v ++ r)) = _
    unfold eat
    rw [if_neg (by decide), if_pos rfl]
    exact eat_show v n r h' hr (by omega)
  | .bin g a b, n + 1, r, ⟨hg, ha, hb, hv⟩, hr, hd => by
    have e : showC (.bin g a b) = 40 :: ((showC a ++ 32 :: (g ++ 32 :: showC b)) ++ [41]) := by simp [showC]
    have e' : showC (.bin g a b) ++ r = 40 :: (showC a ++ (32 :: (g ++ (32 :: (showC b ++ (41 :: r)))))) := by simp [showC]
    rw [e] at hd
    rw [dep_cons, dep_app, dep_app, dep_cons, dep_app, dep_cons] at hd
    simp only [if_true, show ¬ (40 = 126) by decide, if_false] at hd
    rw [e']
    unfold eat
    rw [if_neg (by decide), if_neg (by decide), if_neg (by decide), if_neg (by decide)]
    rw [eat_show a n _ ha (dl_32 _) (by omega)]
    have t1 : (32 :: (g ++ (32 :: (showC b ++ (41 :: r))))).drop 1 = g ++ (32 :: (showC b ++ (41 :: r))) := rfl
    obtain ⟨w1, w2⟩ := tw_app (p := not32) (s := g) (r := 32 :: (showC b ++ (41 :: r))) (sgs_not32 hg) (fun c hc => by cases Option.some.inj hc; rfl)
    dsimp only
    rw [t1, w1, w2]
    have t2 : (32 :: (showC b ++ (41 :: r))).drop 1 = showC b ++ (41 :: r) := rfl
    rw [t2, if_neg (by simp), if_neg (by rintro (q | q)
                                         · exact q hg
                                         · exact q (by simp))]
    rw [eat_show b n _ hb (dl_41 _) (by omega)]
    dsimp only
    have t3 : (showC b ++ 41 :: r).take ((showC b ++ 41 :: r).length - (41 :: r).length) = showC b := by
      rw [List.length_append]
      have : (showC b).length + (41 :: r).length - (41 :: r).length = (showC b).length := by omega
      rw [this, List.take_left]
    rw [t3, if_neg, if_pos (by simp)]
    · rfl
    · rintro ⟨q1, q2⟩
      obtain ⟨k, rfl, hk⟩ := numV_of (hv q1)
      have hb' : (TL.numL k.natAbs).length ≤ 20 := hb
      rcases q2 with q2 | q2
      · have : isNumb (intC k) 20 = true := numb_int hb'
        rw [show showC (.num k) = intC k from rfl, this] at q2
        cases q2
      · rw [show showC (.num k) = intC k from rfl, intC_of k rfl (by omega)] at q2
        omega
theorem tw_split (p : Nat → Bool) (s : Cs) : s.takeWhile p ++ s.dropWhile p = s := List.takeWhile_append_dropWhile
theorem nameEat_of {s r : Cs} (h : nameEat s = some r) : ∃ m, isNm m = true ∧ s = m ++ r := by
  unfold nameEat at h
  split at h
  · rename_i hl
    cases h
    refine ⟨s.takeWhile isLow, isNm_iff.mpr ⟨hl.1, by omega, fun c hc => isLow_iff.mp ?_⟩, (tw_split isLow s).symm⟩
    exact List.all_eq_true.mp List.all_takeWhile c hc
  · cases h
/-- the law's reader reads well made values alone -/
theorem eat_sound : ∀ (n : Nat) (s r : Cs), eat n s = some r → ∃ v, Wf v ∧ s = showC v ++ r
  | 0, _, _, h => by unfold eat at h; cases h
  | _ + 1, [], _, h => by unfold eat at h; cases h
  | n + 1, c :: s, r, h => by
    unfold eat at h
    split at h
    · rename_i h1
      cases h; subst h1
      exact ⟨.ps, trivial, rfl⟩
    split at h
    · rename_i h1
      subst h1
      obtain ⟨v, hv, e⟩ := eat_sound n s r h
      exact ⟨.neg v, hv, by rw [e]; rfl⟩
    split at h
    · rename_i h1
      subst h1
      obtain ⟨m, hm, e⟩ := nameEat_of h
      exact ⟨.nw m, hm, by rw [e]; rfl⟩
    split at h
    · split at h
      · obtain ⟨m, hm, e⟩ := nameEat_of h
        exact ⟨.nm m, hm, e⟩
      · split at h
        · rename_i h1
          cases h
          obtain ⟨k, e, hl, _⟩ := numb_of (by decide) h1
          refine ⟨.num k, hl, ?_⟩
          show _ = intC k ++ _
          rw [e]; exact (tw_split isSg _).symm
        · cases h
    · rename_i hc
      have hc' : c = 40 := Classical.byContradiction hc
      subst hc'
      split at h
      · cases h
      · rename_i r1 h1
        obtain ⟨a, ha, ea⟩ := eat_sound n s r1 h1
        split at h
        · cases h
        rename_i h2
        split at h
        · cases h
        rename_i h3
        split at h
        · cases h
        rename_i r3 h4
        obtain ⟨b, hb, eb⟩ := eat_sound n _ r3 h4
        split at h
        · cases h
        rename_i h5
        split at h
        · rename_i h6
          cases h
          have e1 : r1 = 32 :: r1.drop 1 := take1 (Classical.byContradiction h2)
          have hg : (r1.drop 1).takeWhile not32 ∈ sgs := Classical.byContradiction fun q => h3 (.inl q)
          have e2 : (r1.drop 1).dropWhile not32 = 32 :: ((r1.drop 1).dropWhile not32).drop 1 := take1 (Classical.byContradiction fun q => h3 (.inr q))
          have e3 : r3 = 41 :: r3.drop 1 := take1 h6
          have e4 := (tw_split not32 (r1.drop 1)).symm
          refine ⟨.bin _ a b, ⟨hg, ha, hb, fun hq => ?_⟩, ?_⟩
          · have t3 : (((r1.drop 1).dropWhile not32).drop 1).take ((((r1.drop 1).dropWhile not32).drop 1).length - r3.length) = showC b := by
              rw [eb, List.length_append]
              have : (showC b).length + r3.length - r3.length = (showC b).length := by omega
              rw [this, List.take_left]
            rw [t3] at h5
            have q1 : isNumb (showC b) 20 = true := by
              cases q : isNumb (showC b) 20 with
              | true => rfl
              | false => exact absurd ⟨hq, .inl q⟩ h5
            have q2 : ¬ intOf (showC b) < 1 := fun q => h5 ⟨hq, .inr q⟩
            obtain ⟨k, ek, hl, ei⟩ := numb_of (by decide) q1
            rw [ei] at q2
            cases b with
            | num m =>
              have : intOf (showC (.num m)) = m := intC_of m rfl (Nat.le_trans (show _ ≤ 20 from hb) (by decide))
              show decide (1 ≤ m) = true
              rw [this] at ei
              exact decide_eq_true (by omega)
            | nm s' => exact absurd q1 (by
                cases s' with
                | nil => exact absurd (show isNm [] = true from hb) (by decide)
                | cons c t => exact nb_ne (by have := nm_head (show isNm (c :: t) = true from hb); omega))
            | nw s' => exact absurd q1 (nb_ne (by omega))
            | ps => exact absurd q1 (by decide)
            | neg v => exact absurd q1 (nb_ne (by omega))
            | bin g' a' b' => exact absurd q1 (nb_ne (by omega))
          · show 40 :: s = 40 :: (showC a ++ 32 :: (_ ++ 32 :: (showC b ++ [41]))) ++ r3.drop 1
            have : s = showC a ++ (32 :: ((r1.drop 1).takeWhile not32 ++ (32 :: (showC b ++ (41 :: r3.drop 1))))) := by
              rw [← e3, ← eb, ← e2, ← e4, ← e1]; exact ea
            rw [this]
            simp
        · cases h
/-- both readers agree -/
theorem both_read {t : Cs} (h : dep t ≤ 12) : (∃ v, vin 13 t = some v ∧ showC v = t) ↔ eat 13 t = some [] := by
  constructor
  · rintro ⟨v, hv, rfl⟩
    have := eat_show v 13 [] (vin_wf _ _ _ hv) dl_nil (by omega)
    rwa [List.append_nil] at this
  · intro q
    obtain ⟨v, hv, e⟩ := eat_sound 13 t [] q
    rw [List.append_nil] at e
    subst e
    exact ⟨v, vin_show v 13 hv (by omega), rfl⟩
end E60
/-! rules that the layer lacks -/
namespace E60
open PySem L2 PySem.Spec PyProof.Rows
section
variable {X : Cx} {k j : Nat} {C f : Addr} {sp : Sp}
/-- ** of great ints -/
def CPowW (i j : Int) : Prop := 0 ≤ j ∧ j ≤ 100 ∧ i.natAbs.log2 < 1000000
theorem op_powW : OpR X (binaryOp .Pow) (rI CPowW fun i j => .int (i ^ j.toNat)) := opI fun i j _ _ _ _ _ hc q => by
  refine pow_int hc.1 ?_ q
  have b : Builtin.Int.intBits i ≤ i.natAbs.log2 + 1 := by
    unfold Builtin.Int.intBits
    split <;> omega
  have h3 := hc.2.2
  have h4 := hc.2.1
  have h5 := hc.1
  have e : (2 : Int) ^ 27 = 134217728 := by decide
  rw [e]
  have h6 : (Builtin.Int.intBits i : Int) * j ≤ 1000001 * 100 := Int.mul_le_mul (by omega) h4 h5 (by decide)
  omega
theorem mul_mem {x : Str} {n : Int} {c : Nat} (h : c ∈ (Txt.mul x n).cps.toList) : c ∈ x.cps.toList := by
  have go : ∀ (k : Nat) (acc : Array Nat), c ∈ ((List.replicate k x.cps).foldl (· ++ ·) acc).toList → c ∈ acc.toList ∨ c ∈ x.cps.toList := fun k => by
    induction k with
    | zero => intro acc q; exact .inl q
    | succ k ih =>
      intro acc q
      rw [List.replicate_succ, List.foldl_cons] at q
      rcases ih _ q with q | q
      · rw [Array.toList_append, List.mem_append] at q
        exact q
      · exact .inr q
  unfold Txt.mul at h
  split at h
  · cases h
  · split at h
    · exact h
    · rcases go _ _ h with q | q
      · cases q
      · exact q
/-- text * int: some text of so many signs, no others -/
theorem op_mul_str : OpR X (binaryOp .Mult) (fun x y H Q => ∃ (a : Str) (n : Int), x = .str a ∧ y = .int n ∧ 0 < n ∧ n ≤ 2000 ∧ a.length ≤ 100 ∧ ∀ b : Str, b.length ≤ a.length * n.toNat → (∀ c ∈ b.cps.toList, c ∈ a.cps.toList) → Q (.str b) H) := by
  intro pins s σ H x y v u Q I rx ry h
  obtain ⟨a, n, rfl, rfl, hn, hn2, ha, q⟩ := h
  obtain ⟨t, rfl⟩ := rx
  obtain ⟨t', rfl⟩ := ry
  refine SB.mul (mulOk_of 100 2000 ha (by omega) (by omega) (by decide) (by decide)) fun t' k => ⟨.str _, H, I.tok _, ⟨t', rfl⟩, q _ (len_mul_leN (Nat.le_refl _) (by omega)) fun c hc => mul_mem hc⟩
/-- one own operator on two instances of its class -/
structure OwnOp (P : Program) (w : World) (K : PySem.W.Frag) (mg : Str → Option Value) (base : Heap) (k : Nat) (C : Addr) (op : Operator) (sp : Sp) : Prop where
  ex : ∃ (f : Addr) (fd : FuncData) (ps : List Str), PySem.W.selfFirst K C = true ∧ PySem.W.findIn K (.ref C) (PySem.dunder op.info.2) = some (some (.ref f)) ∧ PySem.W.isFn K (.ref f) = true ∧ FnOk P w K mg base L2.CX0 k f fd ps sp ∧ Binds K fd ps []
def rOwn (C : Addr) (sp : Sp) : R2 := fun x y H Q => ∃ a b dx dy fs gs, x = .ref a ∧ y = .ref b ∧ H a = some (.ins C dx fs) ∧ H b = some (.ins C dy gs) ∧ sp [.ref a, .ref b] H (fun v H' => (∃ p, v = .ref p) ∧ Q v H') L2.E0
theorem op_own {op : Operator} (m : OwnOp X.prog X.w X.K X.mg X.base k C op sp) (hr : Room j X.A) (hk : k ≤ j) : OpR X (binaryOp op) (rOwn C sp) := by
  intro pins s σ H x y v u Q I rx ry h
  obtain ⟨f, fd, ps, hc, hs, hf, F, hb⟩ := m.ex
  obtain ⟨a, b, dx, dy, fs, gs, rfl, rfl, ha, hb', hsp⟩ := h
  cases rx
  cases ry
  obtain ⟨mA, J, _⟩ := ins_get I.hok ha
  obtain ⟨mB, J', _⟩ := ins_get I.hok hb'
  obtain ⟨od, J, _⟩ := J.look
  obtain ⟨od', J', _⟩ := J'.look
  obtain ⟨m, hF⟩ := I.fr
  refine PySem.W.binop_K (op := op) hF I.ok.mod.kin J J'.type hc hs hf ?_
  refine wpAny_mono (run_fn (Q := fun v H' => (∃ p, v = .ref p) ∧ Q v H') (vs := [.ref a, .ref b]) (dvs := []) F (hr.mono hk) hb .nil L2.pass0 I (.cons rfl (.cons rfl .nil)) hsp) (fun r s' q => ?_) fun _ _ x => x
  obtain ⟨v, H', I', rv, ⟨p, rfl⟩, q⟩ := q
  cases rv
  exact ⟨.ref p, H', I', rfl, q⟩
/-- one own operator on an instance and an int -/
structure OwnOpI (P : Program) (w : World) (K : PySem.W.Frag) (mg : Str → Option Value) (base : Heap) (k : Nat) (C : Addr) (op : Operator) (sp : Sp) : Prop where
  ex : ∃ (f : Addr) (fd : FuncData) (ps : List Str) (fo ro rc : Option Value), PySem.W.selfFirst K C = true ∧ PySem.W.findIn K (.ref C) (PySem.dunder op.info.2) = some (some (.ref f)) ∧ PySem.W.isFn K (.ref f) = true ∧
    PySem.W.findIn K (.ref C) (PySem.dunderR op.info.2) = some rc ∧ (rc = none ∨ ∃ g : Addr, rc = some (.ref g)) ∧ PySem.W.findIn K (.type "int") (PySem.dunder op.info.2) = some fo ∧ PySem.W.findIn K (.type "int") (PySem.dunderR op.info.2) = some ro ∧ PySem.W.subIn K (.type "int") (.ref C) = some false ∧
    FnOk P w K mg base L2.CX0 k f fd ps sp ∧ Binds K fd ps []
def rOwnI (C : Addr) (sp : Sp) : R2 := fun x y H Q => ∃ a dx fs i, x = .ref a ∧ y = .int i ∧ H a = some (.ins C dx fs) ∧ sp [.ref a, .int i] H (fun v H' => (∃ p, v = .ref p) ∧ Q v H') L2.E0
theorem op_ownI {op : Operator} (m : OwnOpI X.prog X.w X.K X.mg X.base k C op sp) (hr : Room j X.A) (hk : k ≤ j) : OpR X (binaryOp op) (rOwnI C sp) := by
  intro pins s σ H x y v u Q I rx ry h
  obtain ⟨f, fd, ps, fo, ro, rc, hc, hs, hf, hrr, hp, h1, h2, hsub, F, hb⟩ := m.ex
  obtain ⟨a, dx, fs, i, rfl, rfl, ha, hsp⟩ := h
  cases rx
  obtain ⟨t, rfl⟩ := ry
  obtain ⟨mA, J, _⟩ := ins_get I.hok ha
  obtain ⟨od, J, _⟩ := J.look
  obtain ⟨m, hF⟩ := I.fr
  refine PySem.W.ksp_binT (op := op) hF I.ok.mod.kin J rfl hc hs hf hrr hp h1 h2 hsub ?_
  refine wpAny_mono (run_fn (Q := fun v H' => (∃ p, v = .ref p) ∧ Q v H') (vs := [.ref a, .int i]) (dvs := []) F (hr.mono hk) hb .nil L2.pass0 I (.cons rfl (.cons ⟨_, rfl⟩ .nil)) hsp) (fun r s' q => ?_) fun _ _ x => x
  obtain ⟨v, H', I', rv, ⟨p, rfl⟩, q⟩ := q
  cases rv
  exact ⟨.ref p, H', I', rfl, q⟩
structure OwnUn (P : Program) (w : World) (K : PySem.W.Frag) (mg : Str → Option Value) (base : Heap) (k : Nat) (C : Addr) (sp : Sp) : Prop where
  ex : ∃ (f : Addr) (fd : FuncData) (ps : List Str), PySem.W.findIn K (.ref C) "__invert__" = some (some (.ref f)) ∧ PySem.W.isFn K (.ref f) = true ∧ FnOk P w K mg base L2.CX0 k f fd ps sp ∧ Binds K fd ps []
def rOwnU (C : Addr) (sp : Sp) : V → Hp → VK → Prop := fun x H Q => ∃ a dx fs, x = .ref a ∧ H a = some (.ins C dx fs) ∧ sp [.ref a] H Q L2.E0
theorem un_own (m : OwnUn X.prog X.w X.K X.mg X.base k C sp) (hr : Room j X.A) (hk : k ≤ j) : UnR X (unaryOp .Invert) (rOwnU C sp) := by
  intro pins s σ H x v Q I rx h
  obtain ⟨f, fd, ps, hs, hf, F, hb⟩ := m.ex
  obtain ⟨a, dx, fs, rfl, ha, hsp⟩ := h
  cases rx
  obtain ⟨mA, J, _⟩ := ins_get I.hok ha
  obtain ⟨od, J, _⟩ := J.look
  obtain ⟨m, hF⟩ := I.fr
  refine PySem.W.ksp_inv hF I.ok.mod.kin J hs hf ?_
  exact run_fn (vs := [.ref a]) (dvs := []) F (hr.mono hk) hb .nil L2.pass0 I (.cons rfl .nil) hsp
/-- f() -/
theorem pe_c0 {x : Str} {p pos : Pos} (c : Cal X.prog X.w X.K X.mg X.base k x sp []) (hr : Room j X.A) (hk : k ≤ j) (hg : Gl X x) (hdb : (x == ("__debug__" : Str)) = false := by decide) : PE X (.Call (.Name x p) [] [] pos) (tCall sp [] L2.E0 tNil) := by
  obtain ⟨f, fd, ps, ds, F, hm, kp, b, d⟩ := c.ex
  exact pe_call0 F (hr.mono hk) hg hm kp b d L2.pass0 hdb
end
end E60
namespace E60
open PySem L2 Evl SX
abbrev s_is_name : Stmt := topS 9
theorem sc_is_name : FnScope ["name", "letter"] ["name"] (defScope s_is_name) := ⟨rfl, rfl, rfl, by decide +kernel, rfl, by decide +kernel, by decide +kernel⟩
abbrev s_check_name : Stmt := topS 10
theorem sc_check_name : FnScope ["name"] ["name"] (defScope s_check_name) := ⟨rfl, rfl, rfl, by decide +kernel, rfl, by decide +kernel, by decide +kernel⟩
abbrev s_check_divisor : Stmt := topS 11
theorem sc_check_divisor : FnScope ["number"] ["number"] (defScope s_check_divisor) := ⟨rfl, rfl, rfl, by decide +kernel, rfl, by decide +kernel, by decide +kernel⟩
abbrev s_named : Stmt := topS 12
theorem sc_named : FnScope ["name"] ["name"] (defScope s_named) := ⟨rfl, rfl, rfl, by decide +kernel, rfl, by decide +kernel, by decide +kernel⟩
abbrev s_now : Stmt := topS 13
theorem sc_now : FnScope ["name"] ["name"] (defScope s_now) := ⟨rfl, rfl, rfl, by decide +kernel, rfl, by decide +kernel, by decide +kernel⟩
abbrev s_passed : Stmt := topS 14
theorem sc_passed : FnScope [] ([] : List Str) (defScope s_passed) := ⟨rfl, rfl, rfl, by decide +kernel, rfl, by decide +kernel, by decide +kernel⟩
abbrev s_number : Stmt := topS 15
theorem sc_number : FnScope ["n"] ["n"] (defScope s_number) := ⟨rfl, rfl, rfl, by decide +kernel, rfl, by decide +kernel, by decide +kernel⟩
abbrev s_value_of : Stmt := topS 16
theorem sc_value_of : FnScope ["part"] ["part"] (defScope s_value_of) := ⟨rfl, rfl, rfl, by decide +kernel, rfl, by decide +kernel, by decide +kernel⟩
abbrev s_Value___init__ : Stmt := inClass (topS 22) 0
theorem sc_Value___init__ : FnScope ["self", "sign", "first", "second"] ["self", "sign", "first", "second"] (defScope s_Value___init__) := ⟨rfl, rfl, rfl, by decide +kernel, rfl, by decide +kernel, by decide +kernel⟩
abbrev s_Value___add__ : Stmt := inClass (topS 22) 4
theorem sc_Value___add__ : FnScope ["self", "other"] ["self", "other"] (defScope s_Value___add__) := ⟨rfl, rfl, rfl, by decide +kernel, rfl, by decide +kernel, by decide +kernel⟩
abbrev s_Value___sub__ : Stmt := inClass (topS 22) 6
theorem sc_Value___sub__ : FnScope ["self", "other"] ["self", "other"] (defScope s_Value___sub__) := ⟨rfl, rfl, rfl, by decide +kernel, rfl, by decide +kernel, by decide +kernel⟩
abbrev s_Value___mul__ : Stmt := inClass (topS 22) 8
theorem sc_Value___mul__ : FnScope ["self", "other"] ["self", "other"] (defScope s_Value___mul__) := ⟨rfl, rfl, rfl, by decide +kernel, rfl, by decide +kernel, by decide +kernel⟩
abbrev s_Value___floordiv__ : Stmt := inClass (topS 22) 10
theorem sc_Value___floordiv__ : FnScope ["self", "other"] ["self", "other"] (defScope s_Value___floordiv__) := ⟨rfl, rfl, rfl, by decide +kernel, rfl, by decide +kernel, by decide +kernel⟩
abbrev s_Value___and__ : Stmt := inClass (topS 22) 11
theorem sc_Value___and__ : FnScope ["self", "other"] ["self", "other"] (defScope s_Value___and__) := ⟨rfl, rfl, rfl, by decide +kernel, rfl, by decide +kernel, by decide +kernel⟩
abbrev s_Value___or__ : Stmt := inClass (topS 22) 13
theorem sc_Value___or__ : FnScope ["self", "other"] ["self", "other"] (defScope s_Value___or__) := ⟨rfl, rfl, rfl, by decide +kernel, rfl, by decide +kernel, by decide +kernel⟩
abbrev s_Value___invert__ : Stmt := inClass (topS 22) 15
theorem sc_Value___invert__ : FnScope ["self"] ["self"] (defScope s_Value___invert__) := ⟨rfl, rfl, rfl, by decide +kernel, rfl, by decide +kernel, by decide +kernel⟩
abbrev s_Value_rest : Stmt := inClass (topS 22) 17
theorem sc_Value_rest : FnScope ["self", "n"] ["self", "n"] (defScope s_Value_rest) := ⟨rfl, rfl, rfl, by decide +kernel, rfl, by decide +kernel, by decide +kernel⟩
abbrev s_Value_same : Stmt := inClass (topS 22) 18
theorem sc_Value_same : FnScope ["self", "other"] ["self", "other"] (defScope s_Value_same) := ⟨rfl, rfl, rfl, by decide +kernel, rfl, by decide +kernel, by decide +kernel⟩
abbrev s_Value_less : Stmt := inClass (topS 22) 19
theorem sc_Value_less : FnScope ["self", "other"] ["self", "other"] (defScope s_Value_less) := ⟨rfl, rfl, rfl, by decide +kernel, rfl, by decide +kernel, by decide +kernel⟩

structure Txt (K : PySem.W.Frag) (mg : Str → Option Value) (C : Addr) : Prop where
  len : mg "len" = none
  all : mg "all" = none
  isinstance : mg "isinstance" = none
  str : mg "str" = none
  int : mg "int" = none
  abs : mg "abs" = none
  max : mg "max" = none
  min : mg "min" = none
  range : mg "range" = none
  LETTERS : ∃ u, mg "LETTERS" = some u ∧ RelV (.str "abcdefghijklmnopqrstuvwxyz") u
  DIGITS : ∃ u, mg "DIGITS" = some u ∧ RelV (.str "0123456789") u
  MOST_DIGITS : ∃ u, mg "MOST_DIGITS" = some u ∧ RelV (.int 20) u
  MOST_SIGNS : ∃ u, mg "MOST_SIGNS" = some u ∧ RelV (.int 12) u
  SIGNS : ∃ a, mg "SIGNS" = some (.ref a) ∧ ∀ H, SqT K H a (sgs.map fun g => .str (S g))
  Value : ∃ u, mg "Value" = some u ∧ RelV (.ref C) u
  cl : Cls K C
  nsign : NoAttr K C "sign"
  nfirst : NoAttr K C "first"
  nsecond : NoAttr K C "second"
  ins : C8.InsC K C

theorem letters_l : (Str.ofString "abcdefghijklmnopqrstuvwxyz").cps.toList = List.range' 97 26 := by decide +kernel
theorem mem_letters (c : Nat) : decide (c ∈ (Str.ofString "abcdefghijklmnopqrstuvwxyz").cps.toList) = isLow c := by
  rw [letters_l, isLow]
  by_cases h : 97 ≤ c ∧ c ≤ 122
  · rw [decide_eq_true (show c ∈ List.range' 97 26 by rw [List.mem_range'_1]; omega), decide_eq_true h.1, decide_eq_true h.2]; rfl
  · rw [decide_eq_false (show ¬ c ∈ List.range' 97 26 by rw [List.mem_range'_1]; omega)]
    by_cases h1 : 97 ≤ c
    · rw [decide_eq_false (show ¬ c ≤ 122 from fun h2 => h ⟨h1, h2⟩), Bool.and_false]
    · rw [decide_eq_false h1]; rfl
/-! ### values as objects -/
def fl (g : Str) (a b : V) : List (Str × V) := [("sign", .str g), ("first", a), ("second", b)]
theorem fl_sign (g : Str) (a b : V) : (fl g a b).lookup ("sign" : Str) = some (.str g) := rfl
theorem ne1 : ¬ (("sign" : Str) = "first") := by decide +kernel
theorem ne2 : ¬ (("sign" : Str) = "second") := by decide +kernel
theorem ne3 : ¬ (("first" : Str) = "second") := by decide +kernel
theorem lk_ne {x y : Str} {v : V} {l : List (Str × V)} (h : ¬ x = y) : ((y, v) :: l).lookup x = l.lookup x := by
  rw [List.lookup_cons, show (x == y) = false from beq_eq_false_iff_ne.mpr h]
theorem lk_eq {x : Str} {v : V} {l : List (Str × V)} : ((x, v) :: l).lookup x = some v := by
  rw [List.lookup_cons, beq_self_eq_true]
theorem fl_first (g : Str) (a b : V) : (fl g a b).lookup ("first" : Str) = some a := by
  unfold fl; rw [lk_ne (fun e => ne1 e.symm), lk_eq]
theorem fl_second (g : Str) (a b : V) : (fl g a b).lookup ("second" : Str) = some b := by
  unfold fl; rw [lk_ne (fun e => ne2 e.symm), lk_ne (fun e => ne3 e.symm), lk_eq]
theorem fl_no {g : Str} {a b : V} {x : Str} (h1 : ¬ x = "sign") (h2 : ¬ x = "first") (h3 : ¬ x = "second") : (fl g a b).lookup x = none := by
  unfold fl; rw [lk_ne h1, lk_ne h2, lk_ne h3]; rfl
theorem fl_put (g : Str) (a b : V) : putF "second" b (putF "first" a (putF "sign" (.str g) [])) = fl g a b := by
  have e1 : putF "sign" (.str g) [] = [(("sign" : Str), V.str g)] := rfl
  have e2 : putF "first" a [(("sign" : Str), V.str g)] = [(("sign" : Str), V.str g), (("first" : Str), a)] := by
    show (if ("sign" : Str) = "first" then _ else (("sign" : Str), V.str g) :: putF "first" a []) = _
    rw [if_neg ne1]; rfl
  have e3 : putF "second" b [(("sign" : Str), V.str g), (("first" : Str), a)] = fl g a b := by
    show (if ("sign" : Str) = "second" then _ else (("sign" : Str), V.str g) :: (if ("first" : Str) = "second" then _ else (("first" : Str), a) :: putF "second" b [])) = _
    rw [if_neg ne2, if_neg ne3]; rfl
  rw [e1, e2, e3]
/-- the object at p is a value with these fields -/
def VO (C : Addr) (H : Hp) (p : Addr) (g : Str) (a b : V) : Prop := ∃ dx, H p = some (.ins C dx (fl g a b))
theorem VO.mono {C : Addr} {H H' : Hp} {p : Addr} {g : Str} {a b : V} (e : Ex H H') (h : VO C H p g a b) : VO C H' p g a b := h.imp fun _ q => e _ _ q
def ValAt (C : Addr) (H : Hp) : Vl → V → Prop
  | .nm s, v => ∃ p, v = .ref p ∧ VO C H p "named" (.str (S s)) .non
  | .nw s, v => ∃ p, v = .ref p ∧ VO C H p "now" (.str (S s)) .non
  | .ps, v => ∃ p, v = .ref p ∧ VO C H p "passed" .non .non
  | .num n, v => ∃ p, v = .ref p ∧ VO C H p "number" (.int n) .non
  | .neg u, v => ∃ p a, v = .ref p ∧ VO C H p "~" a .non ∧ ValAt C H u a
  | .bin g x y, v => ∃ p a b, v = .ref p ∧ VO C H p (S g) a b ∧ ValAt C H x a ∧ ValAt C H y b
theorem ValAt.mono {C : Addr} {H H' : Hp} (e : Ex H H') : ∀ {t : Vl} {v : V}, ValAt C H t v → ValAt C H' t v
  | .nm _, _, ⟨p, h1, h2⟩ => ⟨p, h1, h2.mono e⟩
  | .nw _, _, ⟨p, h1, h2⟩ => ⟨p, h1, h2.mono e⟩
  | .ps, _, ⟨p, h1, h2⟩ => ⟨p, h1, h2.mono e⟩
  | .num _, _, ⟨p, h1, h2⟩ => ⟨p, h1, h2.mono e⟩
  | .neg _, _, ⟨p, a, h1, h2, h3⟩ => ⟨p, a, h1, h2.mono e, h3.mono e⟩
  | .bin _ _ _, _, ⟨p, a, b, h1, h2, h3, h4⟩ => ⟨p, a, b, h1, h2.mono e, h3.mono e, h4.mono e⟩
/-- every value is an object with a sign -/
theorem ValAt.vo {C : Addr} {H : Hp} {t : Vl} {v : V} (h : ValAt C H t v) : ∃ p g a b, v = .ref p ∧ VO C H p g a b := by
  cases t with
  | nm s => obtain ⟨p, h1, h2⟩ := h; exact ⟨p, _, _, _, h1, h2⟩
  | nw s => obtain ⟨p, h1, h2⟩ := h; exact ⟨p, _, _, _, h1, h2⟩
  | ps => obtain ⟨p, h1, h2⟩ := h; exact ⟨p, _, _, _, h1, h2⟩
  | num n => obtain ⟨p, h1, h2⟩ := h; exact ⟨p, _, _, _, h1, h2⟩
  | neg u => obtain ⟨p, a, h1, h2, _⟩ := h; exact ⟨p, _, _, _, h1, h2⟩
  | bin g x y => obtain ⟨p, a, b, h1, h2, _⟩ := h; exact ⟨p, _, _, _, h1, h2⟩

section
variable {P : Program} {w : World} {K : PySem.W.Frag} {mg : Str → Option Value} {base : Heap} {C f : Addr} {fd : FuncData}
/-- what a def gives: some v with P, leaving but new objects -/
abbrev Ret (Pq : V → Hp → Prop) (H : Hp) (Q : VK) : Prop := ∀ v H', Ex H H' → Pq v H' → Q v H'
def spIsName : Sp := fun vs H Q _ => ∃ l : Cs, vs = [.str (S l)] ∧ l.length ≤ 50000 ∧ ∀ H', Ex H H' → Q (.bl (isNm l)) H'
theorem ok_is_name (F : Fun K "is_name" "is_name" s_is_name f fd) (T : Txt K mg C) : FnOk P w K mg base L2.CX0 1 f fd ["name"] spIsName := by
  refine F.ok sc_is_name (fun vs H Q E h => ?_) (fun cdv A outer s H vs Q E hr h => ?_)
  · obtain ⟨z, rfl, _⟩ := h
    rfl
  obtain ⟨l, rfl, hz, k⟩ := h
  have hz' : (S l).length ≤ 50000 := by rw [S_len]; exact hz
  refine ⟨_, (pss_one (ps_ret (pe_and (pe_chain op_le op_le pe_int (pe_callB call_len_str (by rfl) T.len (by decide +kernel) (pa_cons (pv 0) pa_nil)) pe_int) (pe_one (pe_callB (cr_all rfl) (by rfl) T.all (by decide +kernel) (pa_cons (pe_lc (own := [("letter", 1)]) (g := gName 1) (tt := tYes) (by rfl) sc_is_name.nd (pi_str (pv 0)) (blkOk_by (own := [("letter", 1)]) (N := ["name", "letter"]) (sc := defScope s_is_name) (by decide +kernel)) (fun _ _ _ _ _ => pg_name (i := 1) sc_is_name.nd rfl (Or.inl rfl)) (fun _ _ _ _ _ => pts_nil) (fun _ _ _ _ _ => (pe_cmpR op_in_sign (pv 1) (C8.pe_gc rfl T.LETTERS) (by rfl)))) pa_nil)))))), ?_⟩
  refine s_ret (ev_is (ev_andV (ev_chain ev_c (ev_lenS (ev_var rfl) (by omega)) rv_le (fun _ => ev_c) (fun _ => rv_le))
    (fun _ => ev_all (bs := l.map isLow) (el_lcS (fun _ => true) (fun c => .bl (isLow c)) (ev_var rfl) (by omega) (fun _ => rfl) (fun _ _ _ => et_yes) (fun c H' _ _ => ev_is (ev_op (ev_var rfl) ev_c rv_inC) (by rw [mem_letters]))) ?_)) ?_) k
  · show List.map _ (List.filter (fun _ => true) l) = _
    rw [List.filter_eq_self.mpr (fun _ _ => rfl), List.map_map]; rfl
  · have e : ((S l).length : Int) = (l.length : Int) := by rw [S_len]
    rw [e, show decide ((1 : Int) ≤ (l.length : Int)) = decide (1 ≤ l.length) from decide_eq_decide.mpr (by omega), show decide ((l.length : Int) ≤ 8) = decide (l.length ≤ 8) from decide_eq_decide.mpr (by omega)]
    show V.bl ((decide (1 ≤ l.length) && decide (l.length ≤ 8)) && (l.map isLow).all id) = V.bl (isNm l)
    rw [List.all_map]; rfl
/-- never asked of a text that is none -/
def spCheckName : Sp := fun vs H Q _ => ∃ l : Cs, vs = [.str (S l)] ∧ isNm l = true ∧ ∀ H', Ex H H' → Q .non H'
theorem nm_len {l : Cs} (h : isNm l = true) : l.length ≤ 8 := (isNm_iff.mp h).2.1
theorem ok_check_name (F : Fun K "check_name" "check_name" s_check_name f fd) (c_is_name : Cal P w K mg base 1 "is_name" spIsName []) : FnOk P w K mg base L2.CX0 2 f fd ["name"] spCheckName := by
  refine F.ok sc_check_name (fun vs H Q E h => ?_) (fun cdv A outer s H vs Q E hr h => ?_)
  · obtain ⟨z, rfl, _⟩ := h
    rfl
  obtain ⟨l, rfl, hz, k⟩ := h
  refine ⟨_, (pss_one (ps_if (pt_not (pt_val (C8.pe_c c_is_name hr (by omega) rfl (pa_cons (pv 0) pa_nil)))) (pss_one ps_never) pss_nil)), ?_⟩
  refine ⟨_, rfl, l, rfl, Nat.le_trans (nm_len hz) (by decide), fun H' e => ?_⟩
  rw [hz]
  exact ⟨_, rfl, iteF (k H' e)⟩
def spCheckDiv : Sp := fun vs H Q _ => ∃ n : Int, vs = [.int n] ∧ 1 ≤ n ∧ ∀ H', Ex H H' → Q .non H'
theorem ok_check_divisor (F : Fun K "check_divisor" "check_divisor" s_check_divisor f fd) : FnOk P w K mg base L2.CX0 1 f fd ["number"] spCheckDiv := by
  refine F.ok sc_check_divisor (fun vs H Q E h => ?_) (fun cdv A outer s H vs Q E hr h => ?_)
  · obtain ⟨z, rfl, _⟩ := h
    rfl
  obtain ⟨n, rfl, hz, k⟩ := h
  refine ⟨_, (pss_one (ps_if (pt_cmpR op_lt (pv 0) pe_int (nomark _)) (pss_one ps_never) pss_nil)), ?_⟩
  refine ⟨_, rfl, _, _, rfl, rfl, _, rfl, ?_⟩
  rw [decide_eq_false (by omega)]
  exact iteF (k H (Ex.refl H))
def spInit (C : Addr) : Sp := fun vs H Q _ => ∃ (p dx : Addr) (g : Str) (a b : V), vs = [.ref p, .str g, a, b] ∧ H p = some (.ins C dx []) ∧ Q .non (upd H p (.ins C dx (fl g a b)))
theorem upd_upd (H : Hp) (p : Addr) (a b : HO) : upd (upd H p a) p b = upd H p b := by
  funext q
  by_cases h : q = p
  · subst h; rw [upd_same, upd_same]
  · rw [upd_ne h, upd_ne h, upd_ne h]
theorem ok_init (F : Fun K "__init__" "Value.__init__" s_Value___init__ f fd) (T : Txt K mg C) : FnOk P w K mg base L2.CX0 1 f fd ["self", "sign", "first", "second"] (spInit C) := by
  refine F.ok sc_Value___init__ (fun vs H Q E h => ?_) (fun cdv A outer s H vs Q E hr h => ?_)
  · obtain ⟨p, dx, g, a, b, rfl, _⟩ := h
    rfl
  obtain ⟨p, dx, g, a, b, rfl, hp, k⟩ := h
  refine ⟨_, (pss_cons (ps_fld (pv 0) (pv 1) rfl) (pss_cons (ps_fld (pv 0) (pv 2) rfl) (pss_one (ps_fld (pv 0) (pv 3) rfl)))), ?_⟩
  refine ⟨_, rfl, _, rfl, p, C, dx, [], rfl, hp, T.cl, T.nsign, (by show 0 < 1000; decide), ?_⟩
  refine ⟨_, rfl, _, rfl, p, C, dx, _, rfl, upd_same, T.cl, T.nfirst, (by show 1 < 1000; decide), ?_⟩
  refine ⟨_, rfl, _, rfl, p, C, dx, _, rfl, upd_same, T.cl, T.nsecond, (by show 2 < 1000; decide), ?_⟩
  rw [upd_upd, upd_upd, fl_put]
  exact k
/-- a new value -/
theorem made_ok {H : Hp} {g : Str} {a b : V} {Q : VK} (k : ∀ p H', Ex H H' → VO C H' p g a b → Q (.ref p) H') : ∀ x dx, H x = none → H dx = none → dx ≠ x →
    spInit C (.ref x :: [.str g, a, b]) (upd (upd H dx (.own x)) x (.ins C dx [])) (fun v H2 => v = .non ∧ Q (.ref x) H2) L2.E0 := fun x dx hx hdx ne => by
  refine ⟨x, dx, g, a, b, rfl, upd_same, rfl, ?_⟩
  rw [upd_upd]
  refine k x _ ?_ ⟨dx, upd_same⟩
  intro q o e
  rw [upd_ne (ne_of_none e hx), upd_ne (ne_of_none e hdx)]
  exact e
def spNamed (C : Addr) : Sp := fun vs H Q _ => ∃ l : Cs, vs = [.str (S l)] ∧ isNm l = true ∧ ∀ v H', Ex H H' → ValAt C H' (.nm l) v → Q v H'
theorem ok_named (F : Fun K "named" "named" s_named f fd) (c_check_name : Cal P w K mg base 2 "check_name" spCheckName []) (m_Value : C8.Mak P w K mg base 1 "Value" C (spInit C) []) : FnOk P w K mg base L2.CX0 3 f fd ["name"] (spNamed C) := by
  refine F.ok sc_named (fun vs H Q E h => ?_) (fun cdv A outer s H vs Q E hr h => ?_)
  · obtain ⟨z, rfl, _⟩ := h
    rfl
  obtain ⟨l, rfl, hz, k⟩ := h
  refine ⟨_, (pss_cons (ps_expr (C8.pe_c c_check_name hr (by omega) rfl (pa_cons (pv 0) pa_nil))) (pss_one (ps_ret (C8.pe_mk m_Value hr (by omega) rfl (pa_cons pe_str (pa_cons (pv 0) (pa_cons pe_non pa_nil))))))), ?_⟩
  refine ⟨_, rfl, l, rfl, hz, fun H' e => ?_⟩
  refine ⟨_, rfl, made_ok fun p H2 e2 h2 => k _ _ (e.trans e2) ⟨p, rfl, h2⟩⟩
def spNow (C : Addr) : Sp := fun vs H Q _ => ∃ l : Cs, vs = [.str (S l)] ∧ isNm l = true ∧ ∀ v H', Ex H H' → ValAt C H' (.nw l) v → Q v H'
theorem ok_now (F : Fun K "now" "now" s_now f fd) (c_check_name : Cal P w K mg base 2 "check_name" spCheckName []) (m_Value : C8.Mak P w K mg base 1 "Value" C (spInit C) []) : FnOk P w K mg base L2.CX0 3 f fd ["name"] (spNow C) := by
  refine F.ok sc_now (fun vs H Q E h => ?_) (fun cdv A outer s H vs Q E hr h => ?_)
  · obtain ⟨z, rfl, _⟩ := h
    rfl
  obtain ⟨l, rfl, hz, k⟩ := h
  refine ⟨_, (pss_cons (ps_expr (C8.pe_c c_check_name hr (by omega) rfl (pa_cons (pv 0) pa_nil))) (pss_one (ps_ret (C8.pe_mk m_Value hr (by omega) rfl (pa_cons pe_str (pa_cons (pv 0) (pa_cons pe_non pa_nil))))))), ?_⟩
  refine ⟨_, rfl, l, rfl, hz, fun H' e => ?_⟩
  refine ⟨_, rfl, made_ok fun p H2 e2 h2 => k _ _ (e.trans e2) ⟨p, rfl, h2⟩⟩
def spPassed (C : Addr) : Sp := fun vs H Q _ => vs = [] ∧ ∀ v H', Ex H H' → ValAt C H' .ps v → Q v H'
theorem ok_passed (F : Fun K "passed" "passed" s_passed f fd) (m_Value : C8.Mak P w K mg base 1 "Value" C (spInit C) []) : FnOk P w K mg base L2.CX0 3 f fd [] (spPassed C) := by
  refine F.ok sc_passed (fun vs H Q E h => ?_) (fun cdv A outer s H vs Q E hr h => ?_)
  · obtain ⟨rfl, _⟩ := h
    rfl
  obtain ⟨rfl, k⟩ := h
  refine ⟨_, (pss_one (ps_ret (C8.pe_mk m_Value hr (by omega) rfl (pa_cons pe_str (pa_cons pe_non (pa_cons pe_non pa_nil)))))), ?_⟩
  exact made_ok fun p H2 e2 h2 => k _ _ e2 ⟨p, rfl, h2⟩
def spNumber (C : Addr) : Sp := fun vs H Q _ => ∃ n : Int, vs = [.int n] ∧ ∀ v H', Ex H H' → ValAt C H' (.num n) v → Q v H'
theorem ok_number (F : Fun K "number" "number" s_number f fd) (m_Value : C8.Mak P w K mg base 1 "Value" C (spInit C) []) : FnOk P w K mg base L2.CX0 3 f fd ["n"] (spNumber C) := by
  refine F.ok sc_number (fun vs H Q E h => ?_) (fun cdv A outer s H vs Q E hr h => ?_)
  · obtain ⟨n, rfl, _⟩ := h
    rfl
  obtain ⟨n, rfl, k⟩ := h
  refine ⟨_, (pss_one (ps_ret (C8.pe_mk m_Value hr (by omega) rfl (pa_cons pe_str (pa_cons (pv 0) (pa_cons pe_non pa_nil)))))), ?_⟩
  refine ⟨_, rfl, made_ok fun p H2 e2 h2 => k _ _ e2 ⟨p, rfl, h2⟩⟩
/-- value_of of a value -/
def spValueOf (C : Addr) : Sp := fun vs H Q _ => ∃ p g a b, vs = [.ref p] ∧ VO C H p g a b ∧ Q (.ref p) H
theorem ok_value_of (F : Fun K "value_of" "value_of" s_value_of f fd) (T : Txt K mg C) (c_number : Cal P w K mg base 3 "number" (spNumber C) []) : FnOk P w K mg base L2.CX0 4 f fd ["part"] (spValueOf C) := by
  refine F.ok sc_value_of (fun vs H Q E h => ?_) (fun cdv A outer s H vs Q E hr h => ?_)
  · obtain ⟨p, g, a, b, rfl, _⟩ := h
    rfl
  obtain ⟨p, g, a, b, rfl, ⟨dx, hp⟩, k⟩ := h
  refine ⟨_, (pss_one (ps_ret (pe_ifExp (pt_val (pe_callB (C8.call_isC T.ins) (by rfl) T.isinstance (by decide +kernel) (pa_cons (pv 0) (pa_cons (C8.pe_gc rfl T.Value) pa_nil)))) (pv 0) (C8.pe_c c_number hr (by omega) rfl (pa_cons (pv 0) pa_nil))))), ?_⟩
  refine ⟨_, rfl, p, dx, _, rfl, hp, _, rfl, iteT ⟨_, rfl, k⟩⟩
end
end E60
namespace E60
open PySem L2 Evl SX
section
variable {P : Program} {w : World} {K : PySem.W.Frag} {mg : Str → Option Value} {base : Heap} {C f : Addr} {fd : FuncData}
/-- one sign more over two values -/
def spBin (C : Addr) (g : Cs) : Sp := fun vs H Q _ => ∃ (t u : Vl) (a b : V), vs = [a, b] ∧ ValAt C H t a ∧ ValAt C H u b ∧ ∀ v H', Ex H H' → ValAt C H' (.bin g t u) v → Q v H'
def spDiv (C : Addr) (g : Cs) : Sp := fun vs H Q _ => ∃ (t : Vl) (n : Int) (a : V), vs = [a, .int n] ∧ ValAt C H t a ∧ 1 ≤ n ∧ ∀ v H', Ex H H' → ValAt C H' (.bin g t (.num n)) v → Q v H'
def spNeg (C : Addr) : Sp := fun vs H Q _ => ∃ (t : Vl) (a : V), vs = [a] ∧ ValAt C H t a ∧ ∀ v H', Ex H H' → ValAt C H' (.neg t) v → Q v H'
theorem ok___add__ (F : Fun K "__add__" "Value.__add__" s_Value___add__ f fd) (c_value_of : Cal P w K mg base 4 "value_of" (spValueOf C) []) (m_Value : C8.Mak P w K mg base 1 "Value" C (spInit C) []) : FnOk P w K mg base L2.CX0 5 f fd ["self", "other"] (spBin C [43]) := by
  refine F.ok sc_Value___add__ (fun vs H Q E h => ?_) (fun cdv A outer s H vs Q E hr h => ?_)
  · obtain ⟨t, u, a, b, rfl, _⟩ := h
    rfl
  obtain ⟨t, u, a, b, rfl, ha, hb, k⟩ := h
  obtain ⟨q, g', x, y, rfl, hq⟩ := hb.vo
  refine ⟨_, (pss_one (ps_ret (C8.pe_mk m_Value hr (by omega) rfl (pa_cons pe_str (pa_cons (pv 0) (pa_cons (C8.pe_c c_value_of hr (by omega) rfl (pa_cons (pv 1) pa_nil)) pa_nil)))))), ?_⟩
  refine ⟨_, rfl, _, rfl, q, g', x, y, rfl, hq, made_ok fun p H2 e2 h2 => k _ _ e2 ⟨p, _, _, rfl, ?_, ha.mono e2, hb.mono e2⟩⟩
  rw [show S [43] = Str.ofString "+" from by decide +kernel]; exact h2
theorem ok___sub__ (F : Fun K "__sub__" "Value.__sub__" s_Value___sub__ f fd) (c_value_of : Cal P w K mg base 4 "value_of" (spValueOf C) []) (m_Value : C8.Mak P w K mg base 1 "Value" C (spInit C) []) : FnOk P w K mg base L2.CX0 5 f fd ["self", "other"] (spBin C [45]) := by
  refine F.ok sc_Value___sub__ (fun vs H Q E h => ?_) (fun cdv A outer s H vs Q E hr h => ?_)
  · obtain ⟨t, u, a, b, rfl, _⟩ := h
    rfl
  obtain ⟨t, u, a, b, rfl, ha, hb, k⟩ := h
  obtain ⟨q, g', x, y, rfl, hq⟩ := hb.vo
  refine ⟨_, (pss_one (ps_ret (C8.pe_mk m_Value hr (by omega) rfl (pa_cons pe_str (pa_cons (pv 0) (pa_cons (C8.pe_c c_value_of hr (by omega) rfl (pa_cons (pv 1) pa_nil)) pa_nil)))))), ?_⟩
  refine ⟨_, rfl, _, rfl, q, g', x, y, rfl, hq, made_ok fun p H2 e2 h2 => k _ _ e2 ⟨p, _, _, rfl, ?_, ha.mono e2, hb.mono e2⟩⟩
  rw [show S [45] = Str.ofString "-" from by decide +kernel]; exact h2
theorem ok___mul__ (F : Fun K "__mul__" "Value.__mul__" s_Value___mul__ f fd) (c_value_of : Cal P w K mg base 4 "value_of" (spValueOf C) []) (m_Value : C8.Mak P w K mg base 1 "Value" C (spInit C) []) : FnOk P w K mg base L2.CX0 5 f fd ["self", "other"] (spBin C [42]) := by
  refine F.ok sc_Value___mul__ (fun vs H Q E h => ?_) (fun cdv A outer s H vs Q E hr h => ?_)
  · obtain ⟨t, u, a, b, rfl, _⟩ := h
    rfl
  obtain ⟨t, u, a, b, rfl, ha, hb, k⟩ := h
  obtain ⟨q, g', x, y, rfl, hq⟩ := hb.vo
  refine ⟨_, (pss_one (ps_ret (C8.pe_mk m_Value hr (by omega) rfl (pa_cons pe_str (pa_cons (pv 0) (pa_cons (C8.pe_c c_value_of hr (by omega) rfl (pa_cons (pv 1) pa_nil)) pa_nil)))))), ?_⟩
  refine ⟨_, rfl, _, rfl, q, g', x, y, rfl, hq, made_ok fun p H2 e2 h2 => k _ _ e2 ⟨p, _, _, rfl, ?_, ha.mono e2, hb.mono e2⟩⟩
  rw [show S [42] = Str.ofString "*" from by decide +kernel]; exact h2
theorem ok___and__ (F : Fun K "__and__" "Value.__and__" s_Value___and__ f fd) (c_value_of : Cal P w K mg base 4 "value_of" (spValueOf C) []) (m_Value : C8.Mak P w K mg base 1 "Value" C (spInit C) []) : FnOk P w K mg base L2.CX0 5 f fd ["self", "other"] (spBin C [38]) := by
  refine F.ok sc_Value___and__ (fun vs H Q E h => ?_) (fun cdv A outer s H vs Q E hr h => ?_)
  · obtain ⟨t, u, a, b, rfl, _⟩ := h
    rfl
  obtain ⟨t, u, a, b, rfl, ha, hb, k⟩ := h
  obtain ⟨q, g', x, y, rfl, hq⟩ := hb.vo
  refine ⟨_, (pss_one (ps_ret (C8.pe_mk m_Value hr (by omega) rfl (pa_cons pe_str (pa_cons (pv 0) (pa_cons (C8.pe_c c_value_of hr (by omega) rfl (pa_cons (pv 1) pa_nil)) pa_nil)))))), ?_⟩
  refine ⟨_, rfl, _, rfl, q, g', x, y, rfl, hq, made_ok fun p H2 e2 h2 => k _ _ e2 ⟨p, _, _, rfl, ?_, ha.mono e2, hb.mono e2⟩⟩
  rw [show S [38] = Str.ofString "&" from by decide +kernel]; exact h2
theorem ok___or__ (F : Fun K "__or__" "Value.__or__" s_Value___or__ f fd) (c_value_of : Cal P w K mg base 4 "value_of" (spValueOf C) []) (m_Value : C8.Mak P w K mg base 1 "Value" C (spInit C) []) : FnOk P w K mg base L2.CX0 5 f fd ["self", "other"] (spBin C [124]) := by
  refine F.ok sc_Value___or__ (fun vs H Q E h => ?_) (fun cdv A outer s H vs Q E hr h => ?_)
  · obtain ⟨t, u, a, b, rfl, _⟩ := h
    rfl
  obtain ⟨t, u, a, b, rfl, ha, hb, k⟩ := h
  obtain ⟨q, g', x, y, rfl, hq⟩ := hb.vo
  refine ⟨_, (pss_one (ps_ret (C8.pe_mk m_Value hr (by omega) rfl (pa_cons pe_str (pa_cons (pv 0) (pa_cons (C8.pe_c c_value_of hr (by omega) rfl (pa_cons (pv 1) pa_nil)) pa_nil)))))), ?_⟩
  refine ⟨_, rfl, _, rfl, q, g', x, y, rfl, hq, made_ok fun p H2 e2 h2 => k _ _ e2 ⟨p, _, _, rfl, ?_, ha.mono e2, hb.mono e2⟩⟩
  rw [show S [124] = Str.ofString "|" from by decide +kernel]; exact h2
theorem ok_same (F : Fun K "same" "Value.same" s_Value_same f fd) (c_value_of : Cal P w K mg base 4 "value_of" (spValueOf C) []) (m_Value : C8.Mak P w K mg base 1 "Value" C (spInit C) []) : FnOk P w K mg base L2.CX0 5 f fd ["self", "other"] (spBin C [61]) := by
  refine F.ok sc_Value_same (fun vs H Q E h => ?_) (fun cdv A outer s H vs Q E hr h => ?_)
  · obtain ⟨t, u, a, b, rfl, _⟩ := h
    rfl
  obtain ⟨t, u, a, b, rfl, ha, hb, k⟩ := h
  obtain ⟨q, g', x, y, rfl, hq⟩ := hb.vo
  refine ⟨_, (pss_one (ps_ret (C8.pe_mk m_Value hr (by omega) rfl (pa_cons pe_str (pa_cons (pv 0) (pa_cons (C8.pe_c c_value_of hr (by omega) rfl (pa_cons (pv 1) pa_nil)) pa_nil)))))), ?_⟩
  refine ⟨_, rfl, _, rfl, q, g', x, y, rfl, hq, made_ok fun p H2 e2 h2 => k _ _ e2 ⟨p, _, _, rfl, ?_, ha.mono e2, hb.mono e2⟩⟩
  rw [show S [61] = Str.ofString "=" from by decide +kernel]; exact h2
theorem ok_less (F : Fun K "less" "Value.less" s_Value_less f fd) (c_value_of : Cal P w K mg base 4 "value_of" (spValueOf C) []) (m_Value : C8.Mak P w K mg base 1 "Value" C (spInit C) []) : FnOk P w K mg base L2.CX0 5 f fd ["self", "other"] (spBin C [60]) := by
  refine F.ok sc_Value_less (fun vs H Q E h => ?_) (fun cdv A outer s H vs Q E hr h => ?_)
  · obtain ⟨t, u, a, b, rfl, _⟩ := h
    rfl
  obtain ⟨t, u, a, b, rfl, ha, hb, k⟩ := h
  obtain ⟨q, g', x, y, rfl, hq⟩ := hb.vo
  refine ⟨_, (pss_one (ps_ret (C8.pe_mk m_Value hr (by omega) rfl (pa_cons pe_str (pa_cons (pv 0) (pa_cons (C8.pe_c c_value_of hr (by omega) rfl (pa_cons (pv 1) pa_nil)) pa_nil)))))), ?_⟩
  refine ⟨_, rfl, _, rfl, q, g', x, y, rfl, hq, made_ok fun p H2 e2 h2 => k _ _ e2 ⟨p, _, _, rfl, ?_, ha.mono e2, hb.mono e2⟩⟩
  rw [show S [60] = Str.ofString "<" from by decide +kernel]; exact h2
theorem ok___floordiv__ (F : Fun K "__floordiv__" "Value.__floordiv__" s_Value___floordiv__ f fd) (c_check_divisor : Cal P w K mg base 1 "check_divisor" spCheckDiv []) (c_number : Cal P w K mg base 3 "number" (spNumber C) []) (m_Value : C8.Mak P w K mg base 1 "Value" C (spInit C) []) : FnOk P w K mg base L2.CX0 5 f fd ["self", "other"] (spDiv C [47, 47]) := by
  refine F.ok sc_Value___floordiv__ (fun vs H Q E h => ?_) (fun cdv A outer s H vs Q E hr h => ?_)
  · obtain ⟨t, n, a, rfl, _⟩ := h
    rfl
  obtain ⟨t, n, a, rfl, ha, hn, k⟩ := h
  refine ⟨_, (pss_cons (ps_expr (C8.pe_c c_check_divisor hr (by omega) rfl (pa_cons (pv 1) pa_nil))) (pss_one (ps_ret (C8.pe_mk m_Value hr (by omega) rfl (pa_cons pe_str (pa_cons (pv 0) (pa_cons (C8.pe_c c_number hr (by omega) rfl (pa_cons (pv 1) pa_nil)) pa_nil))))))), ?_⟩
  refine ⟨_, rfl, n, rfl, hn, fun H1 e1 => ?_⟩
  refine ⟨_, rfl, _, rfl, n, rfl, fun v H2 e2 hv => made_ok fun p H3 e3 h3 => k _ _ (e1.trans (e2.trans e3)) ⟨p, _, _, rfl, ?_, ha.mono (e1.trans (e2.trans e3)), hv.mono e3⟩⟩
  rw [show S [47, 47] = Str.ofString "//" from by decide +kernel]; exact h3
theorem ok_rest (F : Fun K "rest" "Value.rest" s_Value_rest f fd) (c_check_divisor : Cal P w K mg base 1 "check_divisor" spCheckDiv []) (c_number : Cal P w K mg base 3 "number" (spNumber C) []) (m_Value : C8.Mak P w K mg base 1 "Value" C (spInit C) []) : FnOk P w K mg base L2.CX0 5 f fd ["self", "n"] (spDiv C [109, 111, 100]) := by
  refine F.ok sc_Value_rest (fun vs H Q E h => ?_) (fun cdv A outer s H vs Q E hr h => ?_)
  · obtain ⟨t, n, a, rfl, _⟩ := h
    rfl
  obtain ⟨t, n, a, rfl, ha, hn, k⟩ := h
  refine ⟨_, (pss_cons (ps_expr (C8.pe_c c_check_divisor hr (by omega) rfl (pa_cons (pv 1) pa_nil))) (pss_one (ps_ret (C8.pe_mk m_Value hr (by omega) rfl (pa_cons pe_str (pa_cons (pv 0) (pa_cons (C8.pe_c c_number hr (by omega) rfl (pa_cons (pv 1) pa_nil)) pa_nil))))))), ?_⟩
  refine ⟨_, rfl, n, rfl, hn, fun H1 e1 => ?_⟩
  refine ⟨_, rfl, _, rfl, n, rfl, fun v H2 e2 hv => made_ok fun p H3 e3 h3 => k _ _ (e1.trans (e2.trans e3)) ⟨p, _, _, rfl, ?_, ha.mono (e1.trans (e2.trans e3)), hv.mono e3⟩⟩
  rw [show S [109, 111, 100] = Str.ofString "mod" from by decide +kernel]; exact h3
theorem ok___invert__ (F : Fun K "__invert__" "Value.__invert__" s_Value___invert__ f fd) (m_Value : C8.Mak P w K mg base 1 "Value" C (spInit C) []) : FnOk P w K mg base L2.CX0 5 f fd ["self"] (spNeg C) := by
  refine F.ok sc_Value___invert__ (fun vs H Q E h => ?_) (fun cdv A outer s H vs Q E hr h => ?_)
  · obtain ⟨t, a, rfl, _⟩ := h
    rfl
  obtain ⟨t, a, rfl, ha, k⟩ := h
  refine ⟨_, (pss_one (ps_ret (C8.pe_mk m_Value hr (by omega) rfl (pa_cons pe_str (pa_cons (pv 0) (pa_cons pe_non pa_nil)))))), ?_⟩
  exact ⟨_, rfl, made_ok fun p H2 e2 h2 => k _ _ e2 ⟨p, _, rfl, h2, ha.mono e2⟩⟩

/-! ### texts of values -/
abbrev s_show_value : Stmt := topS 24
theorem sc_show_value : FnScope ["value"] ["value"] (defScope s_show_value) := ⟨rfl, rfl, rfl, by decide +kernel, rfl, by decide +kernel, by decide +kernel⟩

def ht : Vl → Nat
  | .neg v => ht v + 1
  | .bin _ a b => max (ht a) (ht b) + 1
  | _ => 0
theorem ofS_append (a b : String) : Str.ofString (a ++ b) = Str.ofString a ++ Str.ofString b := by
  apply TL.ext_tl
  rw [TL.tl_append, TL.tl_ofString, TL.tl_ofString, TL.tl_ofString]
  simp
theorem ofInt (n : Int) : Str.ofString (toString n) = S (intC n) := by
  unfold intC
  by_cases h : n < 0
  · rw [if_pos h]
    have e : toString n = "-" ++ toString ((n.natAbs : Nat) : Int) := by
      cases n with
      | ofNat m => exact absurd h (by simp)
      | negSucc m => rfl
    rw [e, ofS_append, num_S, show Str.ofString "-" = S [45] from by decide +kernel, S_cat]; rfl
  · rw [if_neg h]
    have e : n = ((n.natAbs : Nat) : Int) := by omega
    conv => lhs; rw [e]
    exact num_S n.natAbs
def Ok : Vl → Prop
  | .num m => m.natAbs.log2 < 1920
  | .neg v => Ok v
  | .bin g a b => g ∈ sgs ∧ Ok a ∧ Ok b
  | _ => True
theorem et_sign {σ : L2.St} {H : Hp} {i : Nat} {p : Addr} {g s : Str} {a b : V} (T : Txt K mg C) (h0 : σ[i]? = some (some (.ref p))) (h : VO C H p g a b) : EvT (tTest (tOp rEq (tFld K (tVar i) "sign") (tC (.str s)))) σ H (decide (g = s)) := fun H1 e Q q => by
  obtain ⟨dx, h⟩ := h
  refine ⟨_, h0, p, C, dx, _, _, rfl, e _ _ h, T.cl, T.nsign, fl_sign _ _ _, rfl, _, rfl, ?_⟩
  have : decide (V.str g = V.str s) = decide (g = s) := by
    by_cases q : g = s
    · subst q; simp
    · rw [decide_eq_false q, decide_eq_false (fun e => q (V.str.inj e))]
  rw [this]
  exact q H1 (Ex.refl _)
theorem ev_first {σ : L2.St} {H : Hp} {i : Nat} {p : Addr} {g : Str} {a b : V} (T : Txt K mg C) (h0 : σ[i]? = some (some (.ref p))) (h : VO C H p g a b) : Ev (tFld K (tVar i) "first") σ H a := fun H1 e Q q => by
  obtain ⟨dx, h⟩ := h
  exact ⟨_, h0, p, C, dx, _, _, rfl, e _ _ h, T.cl, T.nfirst, fl_first _ _ _, q H1 (Ex.refl _)⟩
theorem ev_second {σ : L2.St} {H : Hp} {i : Nat} {p : Addr} {g : Str} {a b : V} (T : Txt K mg C) (h0 : σ[i]? = some (some (.ref p))) (h : VO C H p g a b) : Ev (tFld K (tVar i) "second") σ H b := fun H1 e Q q => by
  obtain ⟨dx, h⟩ := h
  exact ⟨_, h0, p, C, dx, _, _, rfl, e _ _ h, T.cl, T.nsecond, fl_second _ _ _, q H1 (Ex.refl _)⟩
theorem ev_signV {σ : L2.St} {H : Hp} {i : Nat} {p : Addr} {g : Str} {a b : V} (T : Txt K mg C) (h0 : σ[i]? = some (some (.ref p))) (h : VO C H p g a b) : Ev (tFld K (tVar i) "sign") σ H (.str g) := fun H1 e Q q => by
  obtain ⟨dx, h⟩ := h
  exact ⟨_, h0, p, C, dx, _, _, rfl, e _ _ h, T.cl, T.nsign, fl_sign _ _ _, q H1 (Ex.refl _)⟩
theorem sg_names {g : Cs} (h : g ∈ sgs) : S g ≠ Str.ofString "named" ∧ S g ≠ Str.ofString "now" ∧ S g ≠ Str.ofString "passed" ∧ S g ≠ Str.ofString "number" ∧ S g ≠ Str.ofString "~" := by
  have : ∀ g ∈ sgs, S g ≠ Str.ofString "named" ∧ S g ≠ Str.ofString "now" ∧ S g ≠ Str.ofString "passed" ∧ S g ≠ Str.ofString "number" ∧ S g ≠ Str.ofString "~" := by decide +kernel
  exact this g h
theorem ev_fmt {te : TE} {σ : L2.St} {H : Hp} {y : Str} (h : Ev te σ H (.str y)) (hz : y.length ≤ 100000) : Ev (tFmt te) σ H (.str y) := fun H1 e Q q =>
  h H1 e _ fun H2 e2 => .inl ⟨y, rfl, sz_of hz, q H2 e2⟩
inductive EvJ (σ : L2.St) (H : Hp) : List TE → List Cs → Prop where
  | nil : EvJ σ H [] []
  | cons {t : TE} {y : Cs} {ts : List TE} {ys : List Cs} (h : Ev t σ H (.str (S y))) (r : EvJ σ H ts ys) : EvJ σ H (t :: ts) (y :: ys)
theorem evJ_go {σ : L2.St} {H : Hp} {ts : List TE} {ys : List Cs} (h : EvJ σ H ts ys) : ∀ (acc : Cs) (H1 : Hp) (Q : Str → Hp → Prop), Ex H H1 → (acc ++ ys.flatten).length ≤ 100000 → (∀ H2, Ex H1 H2 → Q (S (acc ++ ys.flatten)) H2) → tJs ts (S acc) σ H1 Q := by
  induction h with
  | nil => intro acc H1 Q e hz q; simp at q; exact q H1 (Ex.refl _)
  | @cons t y ts ys h r ih =>
    intro acc H1 Q e hz q
    have hz' : ((acc ++ y) ++ ys.flatten).length ≤ 100000 := by simpa using hz
    refine h H1 e _ fun H2 e2 => ⟨S y, rfl, ?_, ?_⟩
    · rw [S_cat, S_len]
      rw [List.length_append] at hz'
      exact sz_of (by omega)
    · rw [S_cat]
      refine ih (acc ++ y) H2 Q (e.trans e2) hz' fun H3 e3 => ?_
      have := q H3 (e2.trans e3)
      simpa using this
theorem ev_js {σ : L2.St} {H : Hp} {ts : List TE} {ys : List Cs} (h : EvJ σ H ts ys) (hz : ys.flatten.length ≤ 100000) : Ev (fun σ H Q => tJs ts Str.empty σ H fun out H1 => Q (.str out) H1) σ H (.str (S ys.flatten)) := fun H1 e Q q =>
  evJ_go h [] H1 (fun out H1 => Q (.str out) H1) e (by simpa using hz) q
theorem ev_cS {σ : L2.St} {H : Hp} {x : Str} {l : Cs} (h : x = S l) : Ev (tC (.str x)) σ H (.str (S l)) := by subst h; exact ev_c
/-- show_value by n calls, one in another -/
def spShow (C : Addr) (n : Nat) : Sp := fun vs H Q _ => ∃ (t : Vl) (v : V), vs = [v] ∧ ValAt C H t v ∧ ht t < n ∧ (showC t).length ≤ 50000 ∧ Ok t ∧ ∀ H', Ex H H' → Q (.str (S (showC t))) H'
theorem sp_show {n : Nat} {t : Vl} {v : V} {H : Hp} (h : ValAt C H t v) (hn : ht t < n) (hl : (showC t).length ≤ 50000) (ho : Ok t) : SpV (spShow C n) [v] H (.str (S (showC t))) := fun H1 e Q q E => ⟨t, v, rfl, h.mono e, hn, hl, ho, q⟩
theorem ok_show {n : Nat} (F : Fun K "show_value" "show_value" s_show_value f fd) (T : Txt K mg C) (c_show_value : Cal P w K mg base n "show_value" (spShow C n) []) : FnOk P w K mg base L2.CX0 (n + 1) f fd ["value"] (spShow C (n + 1)) := by
  refine F.ok sc_show_value (fun vs H Q E h => ?_) (fun cdv A outer s H vs Q E hr h => ?_)
  · obtain ⟨t, v, rfl, _⟩ := h
    rfl
  obtain ⟨t, v, rfl, hv, hn, hl, ho, k⟩ := h
  refine ⟨_, (pss_cons (ps_if (pt_cmpR op_eq (pe_fld (pv 0) rfl) pe_str (nomark _)) (pss_one (ps_ret (pe_fld (pv 0) rfl))) pss_nil) (pss_cons (ps_if (pt_cmpR op_eq (pe_fld (pv 0) rfl) pe_str (nomark _)) (pss_one (ps_ret (pe_op op_add_str pe_str (pe_fld (pv 0) rfl)))) pss_nil) (pss_cons (ps_if (pt_cmpR op_eq (pe_fld (pv 0) rfl) pe_str (nomark _)) (pss_one (ps_ret pe_str)) pss_nil) (pss_cons (ps_if (pt_cmpR op_eq (pe_fld (pv 0) rfl) pe_str (nomark _)) (pss_one (ps_ret (pe_callTy call_str_int (by rfl) T.str (by decide +kernel) (pa_cons (pe_fld (pv 0) rfl) pa_nil)))) pss_nil) (pss_cons (ps_if (pt_cmpR op_eq (pe_fld (pv 0) rfl) pe_str (nomark _)) (pss_one (ps_ret (pe_op op_add_str pe_str (C8.pe_c c_show_value hr (by omega) rfl (pa_cons (pe_fld (pv 0) rfl) pa_nil))))) pss_nil) (pss_one (ps_ret (pe_joined (.cons pe_str (.cons (pe_fmt (C8.pe_c c_show_value hr (by omega) rfl (pa_cons (pe_fld (pv 0) rfl) pa_nil))) (.cons pe_str (.cons (pe_fmt (pe_fld (pv 0) rfl)) (.cons pe_str (.cons (pe_fmt (C8.pe_c c_show_value hr (by omega) rfl (pa_cons (pe_fld (pv 0) rfl) pa_nil))) (.cons pe_str .nil))))))))))))))), ?_⟩
  cases t with
  | nm s =>
    obtain ⟨p, rfl, h2⟩ := hv
    exact q_when (et_sign T rfl h2) (fun _ H9 e9 => s_ret (ev_first T rfl (h2.mono e9)) fun H8 e8 => k H8 (e9.trans e8)) (fun q => absurd rfl (of_decide_eq_false q))
  | nw s =>
    obtain ⟨p, rfl, h2⟩ := hv
    refine q_when (et_sign T rfl h2) (fun q => absurd (of_decide_eq_true q) (by decide +kernel)) (fun _ H1 e1 => ?_)
    have h2_1 := h2.mono e1
    refine q_when (et_sign T rfl h2_1) (fun _ H9 e9 => s_ret (ev_is (ev_op ev_c (ev_first T rfl (h2_1.mono e9)) (rv_catS ?_)) ?_) fun H8 e8 => k H8 (e1.trans (e9.trans e8))) (fun q => absurd rfl (of_decide_eq_false q))
    · have : (33 :: s).length ≤ 50000 := hl
      have e0 : (Str.ofString "!").length = 1 := by decide +kernel
      rw [List.length_cons] at this
      rw [e0, S_len]
      omega
    · rw [show Str.ofString "!" = S [33] from by decide +kernel, S_cat]; rfl
  | ps =>
    obtain ⟨p, rfl, h2⟩ := hv
    refine q_when (et_sign T rfl h2) (fun q => absurd (of_decide_eq_true q) (by decide +kernel)) (fun _ H1 e1 => ?_)
    have h2_1 := h2.mono e1
    refine q_when (et_sign T rfl h2_1) (fun q => absurd (of_decide_eq_true q) (by decide +kernel)) (fun _ H2 e2 => ?_)
    have h2_2 := h2_1.mono e2
    exact q_when (et_sign T rfl h2_2) (fun _ H9 e9 => s_ret (ev_is ev_c (by rw [show Str.ofString "?" = S [63] from by decide +kernel]; rfl)) fun H8 e8 => k H8 ((e1.trans e2).trans (e9.trans e8))) (fun q => absurd rfl (of_decide_eq_false q))
  | num m =>
    obtain ⟨p, rfl, h2⟩ := hv
    refine q_when (et_sign T rfl h2) (fun q => absurd (of_decide_eq_true q) (by decide +kernel)) (fun _ H1 e1 => ?_)
    have h2_1 := h2.mono e1
    refine q_when (et_sign T rfl h2_1) (fun q => absurd (of_decide_eq_true q) (by decide +kernel)) (fun _ H2 e2 => ?_)
    have h2_2 := h2_1.mono e2
    refine q_when (et_sign T rfl h2_2) (fun q => absurd (of_decide_eq_true q) (by decide +kernel)) (fun _ H3 e3 => ?_)
    have h2_3 := h2_2.mono e3
    refine q_when (et_sign T rfl h2_3) (fun _ H9 e9 => ?_) (fun q => absurd rfl (of_decide_eq_false q))
    refine ev_first T rfl (h2_3.mono e9) H9 (Ex.refl _) _ fun H8 e8 => ?_
    refine ⟨m, rfl, ho, ?_⟩
    show Q (V.str (Str.ofString (toString m))) H8
    rw [ofInt]
    exact k H8 ((e1.trans (e2.trans e3)).trans (e9.trans e8))
  | neg u =>
    obtain ⟨p, a, rfl, h2, h3⟩ := hv
    refine q_when (et_sign T rfl h2) (fun q => absurd (of_decide_eq_true q) (by decide +kernel)) (fun _ H1 e1 => ?_)
    have h2_1 := h2.mono e1
    refine q_when (et_sign T rfl h2_1) (fun q => absurd (of_decide_eq_true q) (by decide +kernel)) (fun _ H2 e2 => ?_)
    have h2_2 := h2_1.mono e2
    refine q_when (et_sign T rfl h2_2) (fun q => absurd (of_decide_eq_true q) (by decide +kernel)) (fun _ H3 e3 => ?_)
    have h2_3 := h2_2.mono e3
    refine q_when (et_sign T rfl h2_3) (fun q => absurd (of_decide_eq_true q) (by decide +kernel)) (fun _ H4 e4 => ?_)
    have h2_4 := h2_3.mono e4
    have hl' : (126 :: showC u).length ≤ 50000 := hl
    rw [List.length_cons] at hl'
    have hn' : ht u + 1 < n + 1 := hn
    refine q_when (et_sign T rfl h2_4) (fun _ H9 e9 => s_ret (ev_is (ev_op ev_c (ev_call (vs := [a]) (ea_cons (ev_first T rfl (h2_4.mono e9)) ea_nil) (sp_show (h3.mono ((e1.trans (e2.trans (e3.trans e4))).trans e9)) (by omega) (by omega) ho)) (rv_catS ?_)) ?_) fun H8 e8 => k H8 ((e1.trans (e2.trans (e3.trans e4))).trans (e9.trans e8))) (fun q => absurd rfl (of_decide_eq_false q))
    · have e0 : (Str.ofString "~").length = 1 := by decide +kernel
      rw [e0, S_len]
      omega
    · rw [show Str.ofString "~" = S [126] from by decide +kernel, S_cat]; rfl
  | bin g x y =>
    obtain ⟨p, a, b, rfl, h2, h3, h4⟩ := hv
    refine q_when (et_sign T rfl h2) (fun q => absurd (of_decide_eq_true q) (sg_names ho.1).1) (fun _ H1 e1 => ?_)
    have h2_1 := h2.mono e1
    refine q_when (et_sign T rfl h2_1) (fun q => absurd (of_decide_eq_true q) (sg_names ho.1).2.1) (fun _ H2 e2 => ?_)
    have h2_2 := h2_1.mono e2
    refine q_when (et_sign T rfl h2_2) (fun q => absurd (of_decide_eq_true q) (sg_names ho.1).2.2.1) (fun _ H3 e3 => ?_)
    have h2_3 := h2_2.mono e3
    refine q_when (et_sign T rfl h2_3) (fun q => absurd (of_decide_eq_true q) (sg_names ho.1).2.2.2.1) (fun _ H4 e4 => ?_)
    have h2_4 := h2_3.mono e4
    refine q_when (et_sign T rfl h2_4) (fun q => absurd (of_decide_eq_true q) (sg_names ho.1).2.2.2.2) (fun _ H5 e5 => ?_)
    have h2_5 := h2_4.mono e5
    have hl' : (40 :: (showC x ++ 32 :: (g ++ 32 :: (showC y ++ [41])))).length ≤ 50000 := hl
    simp only [List.length_cons, List.length_append, List.length_nil] at hl'
    have hn' : max (ht x) (ht y) + 1 < n + 1 := hn
    refine s_ret (ev_is (ev_js (ys := [[40], showC x, [32], g, [32], showC y, [41]])
      (.cons (ev_cS (by decide +kernel)) (.cons (ev_fmt (ev_call (vs := [a]) (ea_cons (ev_first T rfl h2_5) ea_nil) (sp_show (h3.mono (e1.trans (e2.trans (e3.trans (e4.trans e5))))) (by omega) (by omega) ho.2.1)) (by rw [S_len]; omega))
        (.cons (ev_cS (by decide +kernel)) (.cons (ev_fmt (ev_signV T rfl h2_5) (by rw [S_len]; omega)) (.cons (ev_cS (by decide +kernel)) (.cons (ev_fmt (ev_call (vs := [b]) (ea_cons (ev_second T rfl h2_5) ea_nil) (sp_show (h4.mono (e1.trans (e2.trans (e3.trans (e4.trans e5))))) (by omega) (by omega) ho.2.2)) (by rw [S_len]; omega))
        (.cons (ev_cS (by decide +kernel)) .nil))))))) ?_) ?_) fun H8 e8 => k H8 ((e1.trans (e2.trans (e3.trans (e4.trans e5)))).trans e8)
    · simp only [List.flatten_cons, List.flatten_nil, List.length_append, List.length_cons, List.length_nil]; omega
    · simp [showC]
end
end E60
namespace E60
open PySem L2 Evl SX
abbrev s_is_number : Stmt := topS 30
theorem sc_is_number : FnScope ["text", "most", "digits", "sign"] ["text", "most"] (defScope s_is_number) := ⟨rfl, rfl, rfl, by decide +kernel, rfl, by decide +kernel, by decide +kernel⟩
abbrev s_split_words : Stmt := topS 31
theorem sc_split_words : FnScope ["text", "pieces", "depth", "part"] ["text"] (defScope s_split_words) := ⟨rfl, rfl, rfl, by decide +kernel, rfl, by decide +kernel, by decide +kernel⟩

/-! ### texts by codes -/
theorem dstr {a b : Cs} {w : Str} (h : w = S b) : decide (V.str (S a) = V.str w) = decide (a = b) := by
  subst h
  by_cases q : a = b
  · subst q; simp
  · rw [decide_eq_false q, decide_eq_false (fun e => q (S_inj (V.str.inj e)))]
theorem ev_eqS {σ : L2.St} {H : Hp} {te : TE} {a b : Cs} {w : Str} (h : Ev te σ H (.str (S a))) (e : w = S b) : Ev (tOp rEq te (tC (.str w))) σ H (.bl (decide (a = b))) := ev_is (ev_op h ev_c (rv_eq rfl)) (by rw [dstr e])
theorem ev_neS {σ : L2.St} {H : Hp} {te : TE} {a b : Cs} {w : Str} (h : Ev te σ H (.str (S a))) (e : w = S b) : Ev (tOp rNe te (tC (.str w))) σ H (.bl (!decide (a = b))) := ev_is (ev_op h ev_c (rv_ne rfl)) (by rw [dstr e])
theorem slice_ft (a : Cs) (i j : Nat) : Txt.slice (S a) (some (i : Int)) (some (j : Int)) = S ((a.drop i).take (j - i)) := by
  rw [← C8.cutS_slice]
  unfold cutS
  rw [HT.sIx_nat, HT.sIx_nat, S_len]
  show S _ = S _
  congr 1
  show List.take (min j a.length - min i a.length) (List.drop (min i a.length) a) = _
  by_cases h : i ≤ a.length
  · rw [Nat.min_eq_left h]
    by_cases h2 : j ≤ a.length
    · rw [Nat.min_eq_left h2]
    · rw [Nat.min_eq_right (by omega), List.take_of_length_le (by rw [List.length_drop]; omega), List.take_of_length_le (by rw [List.length_drop]; omega)]
  · have hi : min i a.length = a.length := Nat.min_eq_right (by omega)
    rw [hi, List.drop_length, List.drop_of_length_le (by omega)]; simp
theorem slice_1m1 (a : Cs) : Txt.slice (S a) (some 1) (some (-1)) = S (a.drop 1).dropLast := by
  rw [← C8.cutS_slice]
  unfold cutS
  show S (List.take (HT.sIx (S a).length (S a).length (some (-1)) - HT.sIx (S a).length 0 (some 1)) (List.drop (HT.sIx (S a).length 0 (some 1)) a)) = _
  have e1 : HT.sIx (S a).length 0 (some 1) = min 1 a.length := by rw [← S_len a]; exact HT.sIx_nat _ _ 1
  have e2 : HT.sIx (S a).length (S a).length (some (-1)) = a.length - 1 := by
    rw [S_len]
    simp only [HT.sIx]
    rw [if_pos (show (-1 : Int) < 0 by decide)]; omega
  rw [e1, e2, List.dropLast_eq_take, List.length_drop]
  match a with
  | [] => rfl
  | [_] => rfl
  | _ :: _ :: _ => simp
theorem slice_m1 (a : Cs) : Txt.slice (S a) (some (-1)) none = S (a.drop (a.length - 1)) := by
  rw [← C8.cutS_slice]
  unfold cutS
  show S (List.take (HT.sIx (S a).length (S a).length none - HT.sIx (S a).length 0 (some (-1))) (List.drop (HT.sIx (S a).length 0 (some (-1))) a)) = _
  have e2 : HT.sIx (S a).length 0 (some (-1)) = a.length - 1 := by
    rw [S_len]
    simp only [HT.sIx]
    rw [if_pos (show (-1 : Int) < 0 by decide)]; omega
  rw [e2, HT.sIx_none, S_len, List.take_of_length_le (by rw [List.length_drop]; omega)]
theorem eo_c {σ : L2.St} {H : Hp} {i : Int} : EvO (tPart (tC (.int i))) σ H (some i) := eo_some ev_c
theorem ev_drop1 {σ : L2.St} {H : Hp} {te : TE} {a : Cs} (h : Ev te σ H (.str (S a))) (hz : a.length ≤ 100000) : Ev (tSl C8.rSlX te (tPart (tC (.int 1))) tNoPart) σ H (.str (S (a.drop 1))) :=
  ev_is (ev_slS h eo_c eo_none (by rw [S_len]; exact hz)) (by rw [slice_from (by decide)]; rfl)
theorem ev_take1 {σ : L2.St} {H : Hp} {te : TE} {a : Cs} (h : Ev te σ H (.str (S a))) (hz : a.length ≤ 100000) : Ev (tSl C8.rSlX te tNoPart (tPart (tC (.int 1)))) σ H (.str (S (a.take 1))) :=
  ev_is (ev_slS h eo_none eo_c (by rw [S_len]; exact hz)) (by rw [slice_to (by decide)]; rfl)
theorem count_S (a : Cs) (c : Nat) : Txt.count (S a) (S [c]) = (a.count c : Int) := by
  have e := PyProof.Rows.count_is (S a) c
  have h : ∀ l : Cs, PyProof.Rows.cnt c l = (l.count c : Int) := fun l => by
    induction l with
    | nil => rfl
    | cons x r ih =>
      rw [PyProof.Rows.cnt_cons, ih, List.count_cons]
      by_cases q : x = c <;> simp [q] <;> omega
  exact e.trans (h a)
theorem digits_l : (Str.ofString "0123456789").cps.toList = List.range' 48 10 := by decide +kernel
theorem mem_digits (c : Nat) : decide (c ∈ (Str.ofString "0123456789").cps.toList) = isDig c := by
  rw [digits_l]
  by_cases h : 48 ≤ c ∧ c ≤ 57
  · rw [decide_eq_true (show c ∈ List.range' 48 10 by rw [List.mem_range'_1]; omega), isDig_iff.mpr h]
  · rw [decide_eq_false (show ¬ c ∈ List.range' 48 10 by rw [List.mem_range'_1]; omega)]
    cases q : isDig c with
    | false => rfl
    | true => exact absurd (isDig_iff.mp q) h
section
variable {P : Program} {w : World} {K : PySem.W.Frag} {mg : Str → Option Value} {base : Heap} {C f : Addr} {fd : FuncData}
theorem ev_lenC {σ : L2.St} {H : Hp} {te : TE} {a : Cs} (h : Ev te σ H (.str (S a))) (hz : a.length ≤ 100000) : Ev (tCB (fun xs H Q => ∃ z : Str, xs = [.str z] ∧ z.length ≤ sizeLine ∧ Q (.int (z.length : Nat)) H) (tCons te tNil)) σ H (.int (a.length : Int)) :=
  ev_is (ev_lenS h (by rw [S_len]; exact hz)) (by rw [S_len])
theorem digs_len (l : Cs) : (digs l).length ≤ l.length := by unfold digs; split <;> simp
theorem digs_ev {σ : L2.St} {H : Hp} {te : TE} {l : Cs} {w : Str} (h : Ev te σ H (.str (S l))) (hz : l.length ≤ 100000) (e : w = S [45]) :
    Ev (tIf (tTest (tOp rEq (tSl C8.rSlX te tNoPart (tPart (tC (.int 1)))) (tC (.str w)))) (tSl C8.rSlX te (tPart (tC (.int 1))) tNoPart) te) σ H (.str (S (digs l))) := by
  refine ev_if (et_test (ev_eqS (ev_take1 h hz) e)) (fun q => ?_) (fun q => ?_)
  · have : digs l = l.drop 1 := if_pos (of_decide_eq_true q)
    rw [this]; exact ev_drop1 h hz
  · have : digs l = l := if_neg (of_decide_eq_false q)
    rw [this]; exact h
def spIsNum : Sp := fun vs H Q _ => ∃ (l : Cs) (m : Nat), vs = [.str (S l), .int m] ∧ l.length ≤ 50000 ∧ ∀ H', Ex H H' → Q (.bl (isNumb l m)) H'
theorem numb_shape (l : Cs) (m : Nat) : isNumb l m = ((decide (1 ≤ (digs l).length) && decide ((digs l).length ≤ m)) && (digs l).all isDig && (!decide ((digs l).head? = some 48) || decide (l = [48]))) := rfl
theorem ok_is_number (F : Fun K "is_number" "is_number" s_is_number f fd) (T : Txt K mg C) : FnOk P w K mg base L2.CX0 1 f fd ["text", "most"] spIsNum := by
  refine F.ok sc_is_number (fun vs H Q E h => ?_) (fun cdv A outer s H vs Q E hr h => ?_)
  · obtain ⟨l, m, rfl, _⟩ := h
    rfl
  obtain ⟨l, m, rfl, hz, k⟩ := h
  refine ⟨_, (pss_cons (ps_set (i := 2) sc_is_number.nd rfl (Or.inl rfl) (pe_ifExp (pt_cmpR op_eq (pe_slice C8.sl_txt (pv 0) po_none (po_some pe_int)) pe_str (nomark _)) (pe_slice C8.sl_txt (pv 0) (po_some pe_int) po_none) (pv 0))) (pss_cons (ps_if (PW.pt (pw_or (pt_not (pt_chain op_le op_le pe_int (pe_callB call_len_str (by rfl) T.len (by decide +kernel) (pa_cons (pv 2) pa_nil)) (pv 1))) (pw_or1 (pt_not (pt_val (pe_callB (cr_all rfl) (by rfl) T.all (by decide +kernel) (pa_cons (pe_lc (own := [("sign", 3)]) (g := gName 3) (tt := tYes) (by rfl) sc_is_number.nd (pi_str (pv 2)) (blkOk_by (own := [("sign", 3)]) (N := ["text", "most", "digits", "sign"]) (sc := defScope s_is_number) (by decide +kernel)) (fun _ _ _ _ _ => pg_name (i := 3) sc_is_number.nd rfl (Or.inl rfl)) (fun _ _ _ _ _ => pts_nil) (fun _ _ _ _ _ => (pe_cmpR op_in_sign (pv 3) (C8.pe_gc rfl T.DIGITS) (by rfl)))) pa_nil))))))) (pss_one (ps_ret pe_bl)) pss_nil) (pss_one (ps_ret (pe_or (pe_cmpR op_ne (pe_ix ix_str (pv 2) pe_int (fun _ _ => rfl)) pe_str (nomark _)) (pe_one (pe_cmpR op_eq (pv 0) pe_str (nomark _)))))))), ?_⟩
  have hd := digs_len l
  refine q_asg (digs_ev (ev_var rfl) (by omega) (by decide +kernel)) fun H1 e1 => ?_
  refine q_when (et_or (et_not (et_test (ev_chain ev_c (ev_lenC (ev_var rfl) (by omega)) rv_le (fun _ => ev_var rfl) (fun _ => rv_le))))
    (fun _ => et_not (et_test (ev_all (bs := (digs l).map isDig) (el_lcS (fun _ => true) (fun c => .bl (isDig c)) (ev_var rfl) (by rw [S_len]; omega) (fun _ => rfl) (fun _ _ _ => et_yes) (fun c H' _ _ => ev_is (ev_op (ev_var rfl) ev_c rv_inC) (by rw [mem_digits]))) ?_))))
    (fun q H2 e2 => s_ret ev_c fun H3 e3 => ?_) (fun q H2 e2 => ?_)
  · show List.map _ (List.filter (fun _ => true) (digs l)) = _
    rw [List.filter_eq_self.mpr (fun _ _ => rfl), List.map_map]; rfl
  all_goals
    rw [show decide ((1 : Int) ≤ ((digs l).length : Int)) = decide (1 ≤ (digs l).length) from decide_eq_decide.mpr (by omega), show decide (((digs l).length : Int) ≤ (m : Int)) = decide ((digs l).length ≤ m) from decide_eq_decide.mpr (by omega), List.all_map] at q
    have hs := numb_shape l m
  · have : isNumb l m = false := by
      rw [hs]
      show ((decide (1 ≤ (digs l).length) && decide ((digs l).length ≤ m)) && (digs l).all (id ∘ isDig) && _) = false
      cases q1 : (decide (1 ≤ (digs l).length) && decide ((digs l).length ≤ m)) with
      | false => simp
      | true =>
        rw [q1] at q
        have q' : (digs l).all (id ∘ isDig) = false := by simpa using q
        rw [q']; simp
    have kk := k H3 (e1.trans (e2.trans e3))
    rw [this] at kk
    exact kk
  · have q1 : (decide (1 ≤ (digs l).length) && decide ((digs l).length ≤ m)) = true := by
      cases q1 : (decide (1 ≤ (digs l).length) && decide ((digs l).length ≤ m)) with
      | false => rw [q1] at q; simp at q
      | true => rfl
    have q2 : (digs l).all isDig = true := by
      rw [q1] at q
      have q' : (digs l).all (id ∘ isDig) = true := by simpa using q
      exact q'
    have hlen : 1 ≤ (digs l).length := by
      rw [Bool.and_eq_true] at q1
      exact of_decide_eq_true q1.1
    cases hh : digs l with
    | nil => rw [hh] at hlen; simp at hlen
    | cons c r =>
      refine s_ret (ev_is (ev_orV (ev_is (ev_op (ev_op (ev_var rfl) ev_c (rv_ixS (i := ((0 : Nat) : Int)) (c := c) (by rw [S_len, ← hh]; omega) (atI_nat rfl))) ev_c (rv_ne rfl)) rfl) (fun _ => ev_eqS (b := [48]) (ev_var rfl) (by decide +kernel))) ?_) fun H3 e3 => k H3 (e1.trans (e2.trans e3))
      rw [hs, q1, q2, hh, show decide (V.str ⟨#[c]⟩ = V.str (Str.ofString "0")) = decide ([c] = [48]) from dstr (a := [c]) (by decide +kernel)]
      simp
end
end E60
namespace E60
open PySem L2 Evl SX
abbrev vS (l : Cs) : V := .str (S l)
def wt (ps : List Cs) : Nat := (ps.map fun p => p.length + 1).sum
theorem wt_app (a b : List Cs) : wt (a ++ b) = wt a + wt b := by unfold wt; rw [List.map_append, List.sum_append]
theorem wt_mem {p : Cs} : ∀ {ps : List Cs}, p ∈ ps → p.length + 1 ≤ wt ps
  | q :: r, h => by
    have e : wt (q :: r) = q.length + 1 + wt r := rfl
    rcases List.mem_cons.mp h with h | h
    · subst h; omega
    · have := wt_mem h; omega
theorem wt_len : ∀ ps : List Cs, ps.length ≤ wt ps
  | [] => Nat.le_refl _
  | q :: r => by
    have e : wt (q :: r) = q.length + 1 + wt r := rfl
    have := wt_len r
    rw [List.length_cons]; omega
theorem split_32 (l : Cs) : Txt.split (S l) (S [32]) = (TL.spl [32] 0 [] l).map S := split_S (by decide) (by decide)
theorem spl_wt (l : Cs) : wt (TL.spl [32] 0 [] l) ≤ l.length + 1 := by
  have h := PyProof.Rows.split_weight (S l) (S [32]) (by decide)
  rw [split_32, S_len, List.map_map, List.length_map] at h
  have e : ∀ ps : List Cs, wt ps = (ps.map (Str.length ∘ S)).sum + ps.length := fun ps => by
    induction ps with
    | nil => rfl
    | cons q r ih =>
      have e1 : wt (q :: r) = q.length + 1 + wt r := rfl
      rw [e1, ih, List.map_cons, List.sum_cons, List.length_cons]
      show q.length + 1 + _ = (S q).length + _ + _
      rw [S_len]; omega
  rw [e]; exact h
theorem swStep_wt (ps : List Cs) (d : Int) (p : Cs) (h : d > 0 → ps ≠ []) : wt (swStep (ps, d) p).1 = wt ps + (p.length + 1) := by
  unfold swStep
  by_cases hd : d > 0
  · rw [if_pos hd]
    have ne := h hd
    have e := List.dropLast_concat_getLast ne
    have e2 : ps.getLastD [] = ps.getLast ne := by rw [List.getLastD_eq_getLast?, List.getLast?_eq_some_getLast ne]; rfl
    have e3 : wt ps = wt ps.dropLast + ((ps.getLast ne).length + 1) := by
      conv => lhs; rw [← e]
      rw [wt_app]; rfl
    show wt (ps.dropLast ++ [ps.getLastD [] ++ 32 :: p]) = _
    rw [wt_app, e2, e3]
    show _ + ((ps.getLast ne ++ 32 :: p).length + 1 + 0) = _
    rw [List.length_append, List.length_cons]; omega
  · rw [if_neg hd]
    show wt (ps ++ [p]) = _
    rw [wt_app]; rfl
theorem swStep_ne (st : List Cs × Int) (p : Cs) : (swStep st p).1 ≠ [] := by
  unfold swStep
  by_cases hd : st.2 > 0 <;> simp [hd]
theorem take_more {α : Type} {l : List α} {i : Nat} {x : α} (h : l[i]? = some x) : l.take (i + 1) = l.take i ++ [x] := by
  rw [List.take_add_one, h]; rfl
section
variable {P : Program} {w : World} {K : PySem.W.Frag} {mg : Str → Option Value} {base : Heap} {C f : Addr} {fd : FuncData}
def spSplit : Sp := fun vs H Q _ => ∃ l : Cs, vs = [vS l] ∧ l.length ≤ 50000 ∧ ∀ p H', Ex H H' → H p = none → H' p = some (.lst ((swords l).map vS)) → Q (.ref p) H'
theorem ok_split_words (F : Fun K "split_words" "split_words" s_split_words f fd) : FnOk P w K mg base L2.CX0 1 f fd ["text"] spSplit := by
  refine F.ok sc_split_words (fun vs H Q E h => ?_) (fun cdv A outer s H vs Q E hr h => ?_)
  · obtain ⟨l, rfl, _⟩ := h
    rfl
  obtain ⟨l, rfl, hz, k⟩ := h
  refine ⟨_, (pss_cons (ps_par (i := 1) (j := 2) (by rfl) sc_split_words.nd rfl rfl (by decide) rfl rfl (pa_cons (pe_lst pa_nil) (pa_cons pe_int pa_nil)) (by rfl)) (pss_cons (ps_for PassesOwn.never rfl (pi_list (pe_split (pv 0) pe_str)) (pg_name (i := 3) sc_split_words.nd rfl (Or.inl rfl)) (pss_cons (ps_if (pt_cmpR op_gt (pv 2) pe_int (nomark _)) (pss_one (ps_expr (pe_bm PySem.F.plainAttrs_list PySem.F.slot_list_append PySem.F.type_list_append mt_append (pv 1) (pa_cons (pe_op op_add_str (pe_op op_add_str (pe_bm0 PySem.F.plainAttrs_list PySem.F.slot_list_pop PySem.F.type_list_pop mt_pop (pv 1)) pe_str) (pv 3)) pa_nil)))) (pss_one (ps_expr (pe_bm PySem.F.plainAttrs_list PySem.F.slot_list_append PySem.F.type_list_append mt_append (pv 1) (pa_cons (pv 3) pa_nil))))) (pss_one (ps_set (i := 2) sc_split_words.nd rfl (Or.inl rfl) (pe_op op_sub (pe_op op_add (pv 2) (pe_m1 PySem.F.slot_str_count PySem.F.type_str_count mt_count (pv 3) pe_str)) (pe_m1 PySem.F.slot_str_count PySem.F.type_str_count mt_count (pv 3) pe_str)))))) (pss_one (ps_ret (pv 1))))), ?_⟩
  refine ⟨Nat.zero_le _, fun L hL => ⟨_, _, rfl, ?_⟩⟩
  have e32 : Str.ofString " " = S [32] := by decide +kernel
  refine ⟨_, rfl, ⟨_, rfl⟩, S l, Str.ofString " ", rfl, rfl, by decide +kernel, ?_, fun p hp => ?_⟩
  · rw [S_len]; exact sz_of (by omega)
  rw [e32, split_32, List.map_map]
  have hLp : L ≠ p := fun q => by subst q; rw [upd_same] at hp; cases hp
  have hp0 : H p = none := by rw [upd_ne hLp.symm] at hp; exact hp
  generalize hps : TL.spl [32] 0 [] l = parts
  have hw := spl_wt l
  rw [hps] at hw
  refine ⟨p, rfl, ⟨_, SqL.of upd_same⟩, for_list (K := K) (a := p) (xs := parts.map (V.str ∘ S)) (fun i σ H' => ∃ (ps : List Cs) (d : Int) (v : Option V), σ = [some (vS l), some (.ref L), some (.int d), v] ∧
      (parts.take i).foldl swStep ([], 0) = (ps, d) ∧ H' L = some (.lst (ps.map vS)) ∧ H' p = some (.lst (parts.map (V.str ∘ S))) ∧ Ex H H' ∧ wt ps = wt (parts.take i) ∧ (d > 0 → ps ≠ []))
    ⟨[], 0, none, rfl, rfl, ?_, upd_same, ?_, rfl, fun q => absurd q (by decide)⟩ (fun i σ H' _ ⟨_, _, _, _, _, _, hp', _⟩ => SqL.of hp') ?_ ?_⟩
  · rw [upd_ne hLp, upd_same]; rfl
  · exact (same_new hL _).trans (same_new hp _)
  · rintro i y σ H' hi ⟨ps, d, v, rfl, hf, hL', hp', hx, hwt, hne⟩
    obtain ⟨q, hq, rfl⟩ : ∃ q, parts[i]? = some q ∧ y = vS q := by
      rw [List.getElem?_map] at hi
      cases e : parts[i]? with
      | none => rw [e] at hi; cases hi
      | some q => rw [e] at hi; exact ⟨q, rfl, (Option.some.inj hi).symm⟩
    have tk := take_more hq
    have hstep : (parts.take (i + 1)).foldl swStep ([], 0) = swStep (ps, d) q := by rw [tk, List.foldl_append, hf]; rfl
    have hwt' : wt (swStep (ps, d) q).1 = wt (parts.take (i + 1)) := by
      rw [swStep_wt ps d q hne, hwt, tk, wt_app]; rfl
    have hwtot : wt (parts.take (i + 1)) ≤ l.length + 1 := by
      have : wt parts = wt (parts.take (i + 1)) + wt (parts.drop (i + 1)) := by rw [← wt_app, List.take_append_drop]
      omega
    have hlen : ps.length ≤ 60000 := by
      have := wt_len ps
      rw [hwt] at this
      have h3 : wt (parts.take (i + 1)) = wt (parts.take i) + (q.length + 1) := by rw [tk, wt_app]; rfl
      omega
    have hqlen : wt ps + (q.length + 1) ≤ l.length + 1 := by rw [← swStep_wt ps d q hne, hwt']; exact hwtot
    have c40 : Str.ofString "(" = S [40] := by decide +kernel
    have c41 : Str.ofString ")" = S [41] := by decide +kernel
    refine ⟨_, rfl, _, _, rfl, rfl, _, rfl, ?_⟩
    by_cases hd : d > 0
    · rw [decide_eq_true (show (0 : Int) < d from hd)]
      refine iteT ?_
      have ne := hne hd
      have e2 : ps.getLastD [] = ps.getLast ne := by rw [List.getLastD_eq_getLast?, List.getLast?_eq_some_getLast ne]; rfl
      have hlast : (ps.map vS)[(ps.map vS).length - 1]? = some (vS (ps.getLast ne)) := by
        rw [List.length_map, List.getElem?_map, ← List.getLast?_eq_getElem?, List.getLast?_eq_some_getLast ne]; rfl
      have hm := wt_mem (List.getLast_mem ne)
      refine ⟨_, rfl, .inl ⟨rfl, _, SqL.of hL'⟩, ?_⟩
      refine ⟨_, rfl, .inl ⟨rfl, _, SqL.of hL'⟩, L, _, _, rfl, rfl, hL', hlast, ?_⟩
      refine ⟨_, _, rfl, rfl, ?_, ?_⟩
      · rw [S_len, S_len, List.length_singleton]; exact sz_of (by omega)
      refine ⟨_, rfl, _, _, rfl, rfl, ?_, ?_⟩
      · rw [S_cat, S_len, S_len, List.length_append, List.length_singleton]; exact sz_of (by omega)
      refine ⟨L, _, _, rfl, rfl, upd_same, ?_, ?_⟩
      · rw [List.length_dropLast, List.length_map]; exact sz_lt (by omega)
      refine ⟨_, rfl, _, rfl, ⟨_, rfl⟩, _, _, rfl, rfl, _, _, rfl, rfl, _, rfl, ⟨_, rfl⟩, _, _, rfl, rfl, _, _, rfl, rfl, ?_⟩
      refine ⟨(swStep (ps, d) q).1, (swStep (ps, d) q).2, some (vS q), ?_, hstep, ?_, ?_, ?_, hwt', fun _ => swStep_ne _ _⟩
      · rw [c40, c41, count_S, count_S]; rfl
      · rw [upd_same, S_cat, S_cat]
        unfold swStep
        rw [if_pos hd, e2]
        simp [List.map_dropLast]
      · rw [upd_ne hLp.symm, upd_ne hLp.symm]; exact hp'
      · exact (hx.mut hL).mut hL
    · rw [decide_eq_false (show ¬ (0 : Int) < d from hd)]
      refine iteF ?_
      refine ⟨_, rfl, .inl ⟨rfl, _, SqL.of hL'⟩, _, rfl, L, _, _, rfl, rfl, hL', ?_, ?_⟩
      · rw [List.length_map]; exact sz_lt (by omega)
      refine ⟨_, rfl, _, rfl, ⟨_, rfl⟩, _, _, rfl, rfl, _, _, rfl, rfl, _, rfl, ⟨_, rfl⟩, _, _, rfl, rfl, _, _, rfl, rfl, ?_⟩
      refine ⟨(swStep (ps, d) q).1, (swStep (ps, d) q).2, some (vS q), ?_, hstep, ?_, ?_, ?_, hwt', fun _ => swStep_ne _ _⟩
      · rw [c40, c41, count_S, count_S]; rfl
      · rw [upd_same]
        unfold swStep
        rw [if_neg hd]
        simp
      · rw [upd_ne hLp.symm]; exact hp'
      · exact hx.mut hL
  · rintro σ H' ⟨ps, d, v, rfl, hf, hL', hp', hx, hwt, hne⟩
    rw [List.length_map, List.take_length] at hf
    refine ⟨_, rfl, k L H' hx hL ?_⟩
    rw [hL']
    unfold swords
    rw [hps, hf]
end
end E60
namespace E60
open PySem L2 Evl SX
abbrev s_value_in : Stmt := topS 32
theorem sc_value_in : FnScope ["text", "part", "pieces", "first", "second"] ["text"] (defScope s_value_in) := ⟨rfl, rfl, rfl, by decide +kernel, rfl, by decide +kernel, by decide +kernel⟩
abbrev s_value_of_text : Stmt := topS 33
theorem sc_value_of_text : FnScope ["text", "found"] ["text"] (defScope s_value_of_text) := ⟨rfl, rfl, rfl, by decide +kernel, rfl, by decide +kernel, by decide +kernel⟩

theorem numb_text {l : Cs} (h : isNumb l 20 = true) : intText? (S l) = some (intOf l) ∧ l.length ≤ 21 := by
  obtain ⟨n, e, hl, hi⟩ := numb_of (by decide) h
  refine ⟨?_, ?_⟩
  · rw [hi, ← e]; exact intC_text (by omega)
  · rw [← e]
    unfold intC
    split
    · rw [List.length_cons]; omega
    · omega
theorem inV_S (g : Cs) : ∀ l : List Cs, inV (vS g) (l.map vS) = decide (g ∈ l)
  | [] => rfl
  | x :: r => by
    show (eqV (vS x) (vS g) || inV (vS g) (r.map vS)) = _
    rw [inV_S g r]
    have e : eqV (vS x) (vS g) = decide (g = x) := by
      show (S x == S g) = _
      rw [S_beq_eq]
      exact decide_eq_decide.mpr eq_comm
    rw [e]
    simp
theorem flat_S (l : List Cs) : (l.map vS).all flatV = true := by
  rw [List.all_map, List.all_eq_true]; intros; rfl
def VinRes (C : Addr) (H : Hp) (r : Option Vl) (v : V) : Prop := match r with
  | none => v = .non
  | some t => ValAt C H t v
theorem VinRes.mono {C : Addr} {H H' : Hp} (e : Ex H H') {r : Option Vl} {v : V} (h : VinRes C H r v) : VinRes C H' r v := by
  cases r with
  | none => exact h
  | some t => exact ValAt.mono e h
theorem VinRes.non {C : Addr} {H : Hp} {r : Option Vl} {v : V} (h : VinRes C H r v) : decide (v = .non) = r.isNone := by
  cases r with
  | none => cases h; rfl
  | some t => obtain ⟨p, _, _, _, e, _⟩ := ValAt.vo h; subst e; rfl
def spVin (C : Addr) (n : Nat) : Sp := fun vs H Q _ => ∃ l : Cs, vs = [vS l] ∧ dep l < n ∧ l.length ≤ 50000 ∧ ∀ v H', Ex H H' → VinRes C H' (vin n l) v → Q v H'
theorem sp_isnm {l : Cs} {H : Hp} (h : l.length ≤ 50000) : SpV spIsName [vS l] H (.bl (isNm l)) := fun _ _ _ q _ => ⟨l, rfl, h, q⟩
theorem sp_isnum {l : Cs} {m : Nat} {H : Hp} (h : l.length ≤ 50000) : SpV spIsNum [vS l, .int m] H (.bl (isNumb l m)) := fun _ _ _ q _ => ⟨l, m, rfl, h, q⟩
theorem vin_1 {n : Nat} {t : Cs} (h : t = [63]) : vin (n + 1) t = some .ps := by unfold vin; rw [if_pos h]
theorem vin_2 {n : Nat} {l : Cs} (q1 : ¬ l = [63]) (q2 : isNm l = true) : vin (n + 1) l = some (.nm l) := by
  conv => lhs; unfold vin
  rw [if_neg q1, if_pos q2]
theorem vin_3 {n : Nat} {l : Cs} (q1 : ¬ l = [63]) (q2 : ¬ isNm l = true) (q3 : l.take 1 = [33] ∧ isNm (l.drop 1) = true) : vin (n + 1) l = some (.nw (l.drop 1)) := by
  conv => lhs; unfold vin
  rw [if_neg q1, if_neg q2, if_pos q3]
theorem vin_4 {n : Nat} {l : Cs} (q1 : ¬ l = [63]) (q2 : ¬ isNm l = true) (q3 : ¬ (l.take 1 = [33] ∧ isNm (l.drop 1) = true)) (q4 : isNumb l 20 = true) : vin (n + 1) l = some (.num (intOf l)) := by
  conv => lhs; unfold vin
  rw [if_neg q1, if_neg q2, if_neg q3, if_pos q4]
theorem vin_5 {n : Nat} {l : Cs} (q1 : ¬ l = [63]) (q2 : ¬ isNm l = true) (q3 : ¬ (l.take 1 = [33] ∧ isNm (l.drop 1) = true)) (q4 : ¬ isNumb l 20 = true) (q5 : l.take 1 = [126]) : vin (n + 1) l = (match vin n (l.drop 1) with | none => none | some v => some (.neg v)) := by
  conv => lhs; unfold vin
  rw [if_neg q1, if_neg q2, if_neg q3, if_neg q4, if_pos q5]
  all_goals rfl
theorem vin_6 {n : Nat} {l : Cs} (q1 : ¬ l = [63]) (q2 : ¬ isNm l = true) (q3 : ¬ (l.take 1 = [33] ∧ isNm (l.drop 1) = true)) (q4 : ¬ isNumb l 20 = true) (q5 : ¬ l.take 1 = [126])
    (q6 : l.take 1 ≠ [40] ∨ l.drop (l.length - 1) ≠ [41] ∨ (swords (l.drop 1).dropLast).length ≠ 3 ∨ (swords (l.drop 1).dropLast).getD 1 [] ∉ sgs) : vin (n + 1) l = none := by
  conv => lhs; unfold vin
  rw [if_neg q1, if_neg q2, if_neg q3, if_neg q4, if_neg q5, if_pos q6]
theorem vin_7 {n : Nat} {l x g y : Cs} (q1 : ¬ l = [63]) (q2 : ¬ isNm l = true) (q3 : ¬ (l.take 1 = [33] ∧ isNm (l.drop 1) = true)) (q4 : ¬ isNumb l 20 = true) (q5 : ¬ l.take 1 = [126])
    (q6 : ¬ (l.take 1 ≠ [40] ∨ l.drop (l.length - 1) ≠ [41] ∨ (swords (l.drop 1).dropLast).length ≠ 3 ∨ (swords (l.drop 1).dropLast).getD 1 [] ∉ sgs)) (hw : swords (l.drop 1).dropLast = [x, g, y]) :
    vin (n + 1) l = (match vin n x, vin n y with | some a, some b => if g ∈ dvs ∧ isNumV b = false then none else some (.bin g a b) | _, _ => none) := by
  conv => lhs; unfold vin
  rw [if_neg q1, if_neg q2, if_neg q3, if_neg q4, if_neg q5, if_neg q6, hw]; rfl
theorem dep_drop1 (l : Cs) : dep (l.drop 1) ≤ dep l := dep_le_of_sub (List.drop_sublist 1 l)
theorem dep_tail {l : Cs} {c : Nat} (h : l.take 1 = [c]) (hc : c = 40 ∨ c = 126) : dep (l.drop 1) + 1 = dep l := by
  have e := take1 h
  conv => rhs; rw [e]
  rw [dep_cons]
  rcases hc with q | q <;> subst q <;> simp
theorem ev_isN {σ : L2.St} {H : Hp} {te : TE} {v : V} {b : Bool} (h : Ev te σ H v) (e : decide (v = .non) = b) : Ev (tOp (fun x y H Q => y = .non ∧ Q (.bl (decide (x = .non))) H) te (tC .non)) σ H (.bl b) := by
  subst e
  exact ev_op h ev_c (rv_val fun _ _ _ qq => ⟨rfl, qq⟩)
section
variable {P : Program} {w : World} {K : PySem.W.Frag} {mg : Str → Option Value} {base : Heap} {C f : Addr} {fd : FuncData}
theorem ok_value_in {n : Nat} (F : Fun K "value_in" "value_in" s_value_in f fd) (T : Txt K mg C) (c_value_in : Cal P w K mg base (n + 6) "value_in" (spVin C n) []) (c_is_name : Cal P w K mg base 1 "is_name" spIsName []) (c_is_number : Cal P w K mg base 1 "is_number" spIsNum [])
    (c_passed : Cal P w K mg base 3 "passed" (spPassed C) []) (c_named : Cal P w K mg base 3 "named" (spNamed C) []) (c_now : Cal P w K mg base 3 "now" (spNow C) []) (c_number : Cal P w K mg base 3 "number" (spNumber C) [])
    (c_split_words : Cal P w K mg base 1 "split_words" spSplit []) (x_invert : OwnUn P w K mg base 5 C (spNeg C)) (m_Value : C8.Mak P w K mg base 1 "Value" C (spInit C) []) :
    FnOk P w K mg base L2.CX0 (n + 7) f fd ["text"] (spVin C (n + 1)) := by
  refine F.ok sc_value_in (fun vs H Q E h => ?_) (fun cdv A outer s H vs Q E hr h => ?_)
  · obtain ⟨l, rfl, _⟩ := h
    rfl
  obtain ⟨l, rfl, hd, hz, k⟩ := h
  obtain ⟨sa, hSm, hSq⟩ := T.SIGNS
  have hSG : ∃ u, mg "SIGNS" = some u ∧ RelV (.ref sa) u := ⟨_, hSm, rfl⟩
  refine ⟨_, (pss_cons (ps_if (pt_cmpR op_eq (pv 0) pe_str (nomark _)) (pss_one (ps_ret (pe_c0 c_passed hr (by omega) rfl))) pss_nil) (pss_cons (ps_if (pt_val (C8.pe_c c_is_name hr (by omega) rfl (pa_cons (pv 0) pa_nil))) (pss_one (ps_ret (C8.pe_c c_named hr (by omega) rfl (pa_cons (pv 0) pa_nil)))) pss_nil) (pss_cons (ps_if (PW.pt (pw_and (pt_cmpR op_eq (pe_slice C8.sl_txt (pv 0) po_none (po_some pe_int)) pe_str (nomark _)) (pw_and1 (pt_val (C8.pe_c c_is_name hr (by omega) rfl (pa_cons (pe_slice C8.sl_txt (pv 0) (po_some pe_int) po_none) pa_nil)))))) (pss_one (ps_ret (C8.pe_c c_now hr (by omega) rfl (pa_cons (pe_slice C8.sl_txt (pv 0) (po_some pe_int) po_none) pa_nil)))) pss_nil) (pss_cons (ps_if (pt_val (C8.pe_c c_is_number hr (by omega) rfl (pa_cons (pv 0) (pa_cons (C8.pe_gc rfl T.MOST_DIGITS) pa_nil)))) (pss_one (ps_ret (C8.pe_c c_number hr (by omega) rfl (pa_cons (pe_callTy call_int_str (by rfl) T.int (by decide +kernel) (pa_cons (pv 0) pa_nil)) pa_nil)))) pss_nil) (pss_cons (ps_if (pt_cmpR op_eq (pe_slice C8.sl_txt (pv 0) po_none (po_some pe_int)) pe_str (nomark _)) (pss_cons (ps_set (i := 1) sc_value_in.nd rfl (Or.inl rfl) (C8.pe_c c_value_in hr (by omega) rfl (pa_cons (pe_slice C8.sl_txt (pv 0) (po_some pe_int) po_none) pa_nil))) (pss_one (ps_ret (pe_ifExp (pt_cmpR op_isN (pv 1) pe_non (nomark _)) pe_non (pe_un (un_own x_invert hr (by omega)) (pv 1)))))) pss_nil) (pss_cons (ps_set (i := 2) sc_value_in.nd rfl (Or.inl rfl) (C8.pe_c c_split_words hr (by omega) rfl (pa_cons (pe_slice C8.sl_txt (pv 0) (po_some pe_int) (po_some (pe_un un_neg pe_int))) pa_nil))) (pss_cons (ps_if (PW.pt (pw_or (pt_cmpR op_ne (pe_slice C8.sl_txt (pv 0) po_none (po_some pe_int)) pe_str (nomark _)) (pw_or (pt_cmpR op_ne (pe_slice C8.sl_txt (pv 0) (po_some (pe_un un_neg pe_int)) po_none) pe_str (nomark _)) (pw_or (pt_cmpR op_ne (pe_callB call_len_seq (by rfl) T.len (by decide +kernel) (pa_cons (pv 2) pa_nil)) pe_int (nomark _)) (pw_or1 (pt_cmpR op_notIn_seq (pe_ix ix_list (pv 2) pe_int (fun _ _ => rfl)) (C8.pe_gc rfl hSG) (by rfl))))))) (pss_one (ps_ret pe_non)) pss_nil) (pss_cons (ps_par (i := 3) (j := 4) (by rfl) sc_value_in.nd rfl rfl (by decide) rfl rfl (pa_cons (C8.pe_c c_value_in hr (by omega) rfl (pa_cons (pe_ix ix_list (pv 2) pe_int (fun _ _ => rfl)) pa_nil)) (pa_cons (C8.pe_c c_value_in hr (by omega) rfl (pa_cons (pe_ix ix_list (pv 2) pe_int (fun _ _ => rfl)) pa_nil)) pa_nil)) (by rfl)) (pss_cons (ps_if (PW.pt (pw_or (pt_cmpR op_isN (pv 3) pe_non (nomark _)) (pw_or1 (pt_cmpR op_isN (pv 4) pe_non (nomark _))))) (pss_one (ps_ret pe_non)) pss_nil) (pss_cons (ps_if (PW.pt (pw_and (pt_cmpR op_in_seq (pe_ix ix_list (pv 2) pe_int (fun _ _ => rfl)) (pe_tup (pa_cons pe_str (pa_cons pe_str pa_nil))) (by rfl)) (pw_and1 (PW.pt (pw_or (pt_cmpR op_ne (pe_fld (pv 4) rfl) pe_str (nomark _)) (pw_or1 (pt_cmpR op_lt (pe_fld (pv 4) rfl) pe_int (nomark _)))))))) (pss_one (ps_ret pe_non)) pss_nil) (pss_one (ps_ret (C8.pe_mk m_Value hr (by omega) rfl (pa_cons (pe_ix ix_list (pv 2) pe_int (fun _ _ => rfl)) (pa_cons (pv 3) (pa_cons (pv 4) pa_nil)))))))))))))))), ?_⟩
  have hz1 : (l.drop 1).length ≤ 50000 := by rw [List.length_drop]; omega
  -- '?'
  refine q_when (et_test (ev_eqS (b := [63]) (ev_var rfl) (by decide +kernel))) (fun q H1 e1 => ?_) (fun q1 H1 e1 => ?_)
  · have e : vin (n + 1) l = some .ps := vin_1 (of_decide_eq_true q)
    exact ⟨rfl, fun v H2 e2 hv => k _ _ (e1.trans e2) (by rw [e]; exact hv)⟩
  have q1' := of_decide_eq_false q1
  -- a name
  refine q_when (et_B (ev_call (vs := [vS l]) (ea_cons (ev_var rfl) ea_nil) (sp_isnm hz))) (fun q H2 e2 => ?_) (fun q2 H2 e2 => ?_)
  · have e : vin (n + 1) l = some (.nm l) := vin_2 q1' q
    exact ⟨_, rfl, l, rfl, q, fun v H3 e3 hv => k _ _ (e1.trans (e2.trans e3)) (by rw [e]; exact hv)⟩
  have q2' : ¬ isNm l = true := by rw [q2]; exact Bool.false_ne_true
  -- a name of now
  refine q_when (et_and (et_test (ev_eqS (b := [33]) (ev_take1 (ev_var rfl) (by omega)) (by decide +kernel))) (fun _ => et_B (ev_call (vs := [vS (l.drop 1)]) (ea_cons (ev_drop1 (ev_var rfl) (by omega)) ea_nil) (sp_isnm hz1)))) (fun q H3 e3 => ?_) (fun q3 H3 e3 => ?_)
  · rw [Bool.and_eq_true, decide_eq_true_eq] at q
    have e : vin (n + 1) l = some (.nw (l.drop 1)) := vin_3 q1' q2' q
    refine ev_drop1 (ev_var rfl) (by omega) H3 (Ex.refl _) _ fun H4 e4 => ?_
    exact ⟨_, rfl, q.2, fun v H5 e5 hv => k _ _ (e1.trans (e2.trans (e3.trans (e4.trans e5)))) (by rw [e]; exact hv)⟩
  have q3' : ¬ (l.take 1 = [33] ∧ isNm (l.drop 1) = true) := fun q => by
    rw [decide_eq_true q.1, q.2] at q3; cases q3
  -- a number
  refine q_when (et_B (ev_call (vs := [vS l, .int (20 : Nat)]) (ea_cons (ev_var rfl) (ea_cons ev_c ea_nil)) (sp_isnum hz))) (fun q H4 e4 => ?_) (fun q4 H4 e4 => ?_)
  · have e : vin (n + 1) l = some (.num (intOf l)) := vin_4 q1' q2' q3' q
    obtain ⟨ht, hl⟩ := numb_text q
    refine ⟨_, rfl, S l, intOf l, rfl, ht, by rw [S_len]; omega, intOf l, rfl, fun v H5 e5 hv => k _ _ (e1.trans (e2.trans (e3.trans (e4.trans e5)))) (by rw [e]; exact hv)⟩
  have q4' : ¬ isNumb l 20 = true := by rw [q4]; exact Bool.false_ne_true
  -- '~'
  refine q_when (et_test (ev_eqS (b := [126]) (ev_take1 (ev_var rfl) (by omega)) (by decide +kernel))) (fun q H5 e5 => ?_) (fun q5 H5 e5 => ?_)
  · have q5 := of_decide_eq_true q
    have hdd := dep_tail q5 (.inr rfl)
    refine ev_drop1 (ev_var rfl) (by omega) H5 (Ex.refl _) _ fun H6 e6 => ?_
    refine ⟨_, rfl, by omega, hz1, fun v H7 e7 hv => ?_⟩
    have e : vin (n + 1) l = (match vin n (l.drop 1) with | none => none | some v => some (.neg v)) := vin_5 q1' q2' q3' q4' q5
    have ex : Ex H H7 := e1.trans (e2.trans (e3.trans (e4.trans (e5.trans (e6.trans e7)))))
    have hn := hv.non
    refine ⟨v, rfl, rfl, _, rfl, ?_⟩
    rw [hn]
    cases hq : vin n (l.drop 1) with
    | none =>
      refine iteT (k _ _ ex ?_)
      rw [e, hq]; rfl
    | some t =>
      rw [hq] at hv
      obtain ⟨p, g, x, y, rfl, dx, hp⟩ := ValAt.vo hv
      refine iteF ⟨_, rfl, p, dx, _, rfl, hp, t, _, rfl, hv, fun v H8 e8 hv8 => k _ _ (ex.trans e8) ?_⟩
      rw [e, hq]; exact hv8
  have q5' := of_decide_eq_false q5
  have ex5 : Ex H H5 := e1.trans (e2.trans (e3.trans (e4.trans e5)))
  -- pieces
  have hz2 : (l.drop 1).dropLast.length ≤ 50000 := by rw [List.length_dropLast]; omega
  refine ev_is (w := vS (l.drop 1).dropLast) (ev_slS (ev_var rfl) eo_c (eo_some (ev_is (ev_un ev_c ru_neg) rfl)) (by rw [S_len]; omega)) (by rw [slice_1m1]) H5 (Ex.refl _) _ fun H5' e5' => ?_
  refine ⟨_, rfl, hz2, fun p H6 e6 hp h6 => ?_⟩
  have ex6 := ex5.trans (e5'.trans e6)
  have hpl : ∀ x ∈ swords (l.drop 1).dropLast, dep x ≤ dep (l.drop 1).dropLast ∧ x.length ≤ (l.drop 1).dropLast.length := fun x hx => by
    rw [swords_eq] at hx
    have a1 := sw_dep _ _ _ _ hx
    have a2 := sw_len _ _ _ _ hx
    rw [dep_nil] at a1
    rw [List.length_nil] at a2
    omega
  have hsl : SqL K H6 p ((swords (l.drop 1).dropLast).map vS) := sq_of h6
  generalize hsw : swords (l.drop 1).dropLast = ps at hpl h6 hsl
  refine q_when (b := (!decide (l.take 1 = [40])) || ((!decide (l.drop (l.length - 1) = [41])) || ((!decide (ps.length = 3)) || (!decide (ps.getD 1 [] ∈ sgs)))))
    (et_or (et_test (ev_neS (b := [40]) (ev_take1 (ev_var rfl) (by omega)) (by decide +kernel))) (fun _ => et_or (et_test (ev_neS (b := [41]) (ev_is (ev_slS (ev_var rfl) (eo_some (ev_is (ev_un ev_c ru_neg) rfl)) eo_none (by rw [S_len]; omega)) (by rw [slice_m1])) (by decide +kernel)))
      (fun _ => et_or (et_test (ev_is (ev_op (ev_len (ev_var rfl) hsl) ev_c (rv_ne rfl)) (by rw [List.length_map]; congr 2; exact decide_eq_decide.mpr ⟨fun q => by have := V.int.inj q; omega, fun q => by rw [q]; rfl⟩)))
        (fun h3 => et_test (ev_is (ev_op (ev_op (ev_var rfl) ev_c (rv_ixL (i := ((1 : Nat) : Int)) (v := vS (ps.getD 1 [])) hsl (atI_nat ?_))) ev_c (rv_niT (hSq _) rfl ?_)) ?_)))))
    (fun q H7 e7 => ?_) (fun q H7 e7 => ?_)
  · have : ps.length = 3 := by simpa using h3
    match ps, this with
    | [x, g, y], _ => rfl
  · exact flat_S sgs
  · show V.bl (!inV (vS (ps.getD 1 [])) (sgs.map vS)) = _
    rw [inV_S]
  · -- none of these
    have e : vin (n + 1) l = none := vin_6 q1' q2' q3' q4' q5' (by
      rw [hsw]
      simp only [Bool.or_eq_true, Bool.not_eq_true', decide_eq_false_iff_not] at q
      exact q)
    exact s_ret ev_c fun H8 e8 => k _ _ (ex6.trans (e7.trans e8)) (by rw [e]; rfl)
  · have q6' : ¬ (l.take 1 ≠ [40] ∨ l.drop (l.length - 1) ≠ [41] ∨ (swords (l.drop 1).dropLast).length ≠ 3 ∨ (swords (l.drop 1).dropLast).getD 1 [] ∉ sgs) := by
      rw [hsw]
      intro q'
      have : ((!decide (l.take 1 = [40])) || ((!decide (l.drop (l.length - 1) = [41])) || ((!decide (ps.length = 3)) || (!decide (ps.getD 1 [] ∈ sgs))))) = true := by
        simp only [Bool.or_eq_true, Bool.not_eq_true', decide_eq_false_iff_not]
        exact q'
      rw [this] at q; cases q
    have hl3 : ps.length = 3 := Classical.byContradiction fun h => q6' (by rw [hsw]; exact .inr (.inr (.inl h)))
    have ht40 : l.take 1 = [40] := Classical.byContradiction fun h => q6' (.inl h)
    have hg : ps.getD 1 [] ∈ sgs := Classical.byContradiction fun h => q6' (by rw [hsw]; exact .inr (.inr (.inr h)))
    match ps, hl3 with
    | [x, g, y], _ =>
    have hg' : g ∈ sgs := hg
    have e7' := vin_7 (n := n) q1' q2' q3' q4' q5' q6' hsw
    have hdl : dep (l.drop 1).dropLast + 1 ≤ dep l := by
      have a1 := dep_tail ht40 (.inl rfl)
      have a2 := dep_le_of_sub (List.dropLast_sublist (l.drop 1))
      omega
    have hx := hpl x (by simp)
    have hy := hpl y (by simp)
    have h7 := e7 _ _ h6
    have hsl7 : SqL K H7 p ([x, g, y].map vS) := sq_of h7
    refine ⟨_, rfl, p, _, _, vS x, rfl, rfl, hsl7, atI_nat (j := 0) rfl, x, rfl, by omega, by omega, fun v1 H8 e8 hv1 => ?_⟩
    refine ⟨_, rfl, p, _, _, vS y, rfl, rfl, sq_of (e8 _ _ h7), atI_nat (j := 2) rfl, y, rfl, by omega, by omega, fun v2 H9 e9 hv2 => ?_⟩
    refine ⟨v1, v2, rfl, ?_⟩
    have hv1' := hv1.mono e9
    have ex9 : Ex H H9 := ex6.trans (e7.trans (e8.trans e9))
    have h9 : H9 p = some (.lst ([x, g, y].map vS)) := e9 _ _ (e8 _ _ h7)
    have n1 := hv1.non
    have n2 := hv2.non
    -- if first is None or second is None
    refine q_when (b := (vin n x).isNone || (vin n y).isNone) (et_or (et_test (ev_isN (ev_var (v := v1) rfl) n1))
      (fun _ => et_test (ev_isN (ev_var (v := v2) rfl) n2))) (fun q H10 e10 => ?_) (fun q H10 e10 => ?_)
    · have e : vin (n + 1) l = none := by
        rw [e7']
        cases hq1 : vin n x with
        | none => rfl
        | some t1 =>
          cases hq2 : vin n y with
          | none => rfl
          | some t2 => rw [hq1, hq2] at q; cases q
      exact s_ret ev_c fun H11 e11 => k _ _ (ex9.trans (e10.trans e11)) (by rw [e]; rfl)
    · cases hq1 : vin n x with
      | none => rw [hq1] at q; cases q
      | some t1 =>
      cases hq2 : vin n y with
      | none => rw [hq1, hq2] at q; cases q
      | some t2 =>
      rw [hq1] at hv1'
      rw [hq2] at hv2
      rw [hq1, hq2] at e7'
      have hv2' : ValAt C H10 t2 v2 := ValAt.mono e10 hv2
      have hv1'' : ValAt C H10 t1 v1 := ValAt.mono e10 hv1'
      obtain ⟨p2, g2, a2, b2, rfl, hvo⟩ := ValAt.vo hv2'
      have h10 := e10 _ _ h9
      have hnum : (g2 = Str.ofString "number" ∧ ∃ m, a2 = .int m ∧ isNumV t2 = decide (1 ≤ m)) ∨ (g2 ≠ Str.ofString "number" ∧ isNumV t2 = false) := by
        have w2 := vin_wf n y t2 hq2
        cases t2 with
        | num m =>
          obtain ⟨p', e, dx', hp'⟩ := hv2'
          cases e
          obtain ⟨dx, hp⟩ := hvo
          rw [hp] at hp'
          cases hp'
          exact .inl ⟨rfl, m, rfl, rfl⟩
        | nm s => obtain ⟨p', e, dx', hp'⟩ := hv2'; cases e; obtain ⟨dx, hp⟩ := hvo; rw [hp] at hp'; cases hp'; exact .inr ⟨by decide +kernel, rfl⟩
        | nw s => obtain ⟨p', e, dx', hp'⟩ := hv2'; cases e; obtain ⟨dx, hp⟩ := hvo; rw [hp] at hp'; cases hp'; exact .inr ⟨by decide +kernel, rfl⟩
        | ps => obtain ⟨p', e, dx', hp'⟩ := hv2'; cases e; obtain ⟨dx, hp⟩ := hvo; rw [hp] at hp'; cases hp'; exact .inr ⟨by decide +kernel, rfl⟩
        | neg u => obtain ⟨p', _, e, ⟨dx', hp'⟩, _⟩ := hv2'; cases e; obtain ⟨dx, hp⟩ := hvo; rw [hp] at hp'; cases hp'; exact .inr ⟨by decide +kernel, rfl⟩
        | bin g' u1 u2 => obtain ⟨p', _, _, e, ⟨dx', hp'⟩, _⟩ := hv2'; cases e; obtain ⟨dx, hp⟩ := hvo; rw [hp] at hp'; cases hp'; exact .inr ⟨(sg_names w2.1).2.2.2.1, rfl⟩
      have hix : ∀ H', Ex H10 H' → Ev (tOp (rIxL K) (tVar 2) (tC (.int 1))) [some (vS l), none, some (.ref p), some v1, some (.ref p2)] H' (vS g) := fun H' e' => ev_op (ev_var rfl) ev_c (rv_ixL (i := ((1 : Nat) : Int)) (sq_of (e' _ _ h10)) (atI_nat rfl))
      refine q_when (b := decide (g ∈ dvs) && !isNumV t2) (et_and (et_test (ev_is (ev_inU (hix H10 (Ex.refl _)) (eu_tup (vs := dvs.map vS) (ea_cons (ev_cS (by decide +kernel)) (ea_cons (ev_cS (by decide +kernel)) ea_nil)) (by decide)) rfl (flat_S dvs)) (by rw [inV_S])))
        (fun _ => ?_)) (fun q H11 e11 => ?_) (fun q H11 e11 => ?_)
      · rcases hnum with ⟨hs, m, hm, hi⟩ | ⟨hs, hi⟩
        · subst hs hm
          refine et_is (et_or (a := false) (b := decide (m < 1)) (et_test (ev_is (ev_op (ev_signV T rfl hvo) ev_c (rv_ne rfl)) (by simp))) (fun _ => et_test (ev_op (ev_first T rfl hvo) ev_c rv_I0))) ?_
          rw [hi, Bool.false_or]
          by_cases hm : m < 1
          · rw [decide_eq_true hm, decide_eq_false (by omega)]; rfl
          · rw [decide_eq_false hm, decide_eq_true (by omega)]; rfl
        · refine et_is (et_or (a := true) (b := true) (et_test (ev_is (ev_op (ev_signV T rfl hvo) ev_c (rv_ne rfl)) (by rw [decide_eq_false (fun e => hs (V.str.inj e))]; rfl))) (fun q => by cases q)) ?_
          rw [hi]; rfl
      · rw [Bool.and_eq_true, decide_eq_true_eq, Bool.not_eq_true'] at q
        have e : vin (n + 1) l = none := by rw [e7']; exact if_pos q
        exact s_ret ev_c fun H12 e12 => k _ _ (ex9.trans (e10.trans (e11.trans e12))) (by rw [e]; rfl)
      · have e : vin (n + 1) l = some (.bin g t1 t2) := by
          rw [e7']
          refine if_neg fun q' => ?_
          rw [decide_eq_true q'.1, q'.2] at q; cases q
        refine hix H11 e11 H11 (Ex.refl _) _ fun H12 e12 => ?_
        refine ⟨_, rfl, _, rfl, made_ok fun pp H13 e13 h13 => k _ _ (ex9.trans (e10.trans (e11.trans (e12.trans e13)))) ?_⟩
        rw [e]
        exact ⟨pp, _, _, rfl, h13, hv1''.mono (e11.trans (e12.trans e13)), hv2'.mono (e11.trans (e12.trans e13))⟩
end
end E60
namespace E60
open PySem L2 Evl SX
theorem sw_wt : ∀ (l cur : Cs) (D : Int), wt (sw cur D l) = cur.length + l.length + 1
  | [], cur, D => rfl
  | c :: r, cur, D => by
    unfold sw
    split
    · split
      · rw [sw_wt r, List.length_append, List.length_singleton, List.length_cons]; omega
      · show cur.length + 1 + wt (sw [] D r) = _
        rw [sw_wt r, List.length_nil, List.length_cons]; omega
    · rw [sw_wt r, List.length_append, List.length_singleton, List.length_cons]; omega
theorem vin_ht : ∀ (n : Nat) (l : Cs) (t : Vl), vin n l = some t → ht t < n ∧ (showC t).length ≤ l.length
  | 0, _, _, h => by unfold vin at h; cases h
  | n + 1, l, t, h => by
    unfold vin at h
    split at h
    · rename_i h1
      cases h; subst h1
      exact ⟨Nat.succ_pos _, Nat.le_refl _⟩
    split at h
    · cases h; exact ⟨Nat.succ_pos _, Nat.le_refl _⟩
    split at h
    · rename_i h1
      cases h
      refine ⟨Nat.succ_pos _, ?_⟩
      have e := take1 h1.1
      show (33 :: l.drop 1).length ≤ l.length
      rw [← e]; exact Nat.le_refl _
    split at h
    · rename_i h1
      cases h
      refine ⟨Nat.succ_pos _, ?_⟩
      obtain ⟨m, e, hl, hi⟩ := numb_of (by decide) h1
      show (intC (intOf l)).length ≤ l.length
      rw [hi, e]; exact Nat.le_refl _
    split at h
    · rename_i h1
      split at h
      · cases h
      · rename_i v hv
        cases h
        obtain ⟨a, b⟩ := vin_ht n _ _ hv
        have e := take1 h1
        refine ⟨Nat.succ_lt_succ a, ?_⟩
        show (126 :: showC v).length ≤ l.length
        rw [e]
        exact Nat.succ_le_succ b
    split at h
    · cases h
    · rename_i hn
      split at h
      · rename_i a b ha hb
        split at h
        · cases h
        · cases h
          obtain ⟨a1, a2⟩ := vin_ht n _ _ ha
          obtain ⟨b1, b2⟩ := vin_ht n _ _ hb
          have h40 : l.take 1 = [40] := Classical.byContradiction fun q => hn (.inl q)
          have h41 : l.drop (l.length - 1) = [41] := Classical.byContradiction fun q => hn (.inr (.inl q))
          have h3 : (swords (l.drop 1).dropLast).length = 3 := Classical.byContradiction fun q => hn (.inr (.inr (.inl q)))
          have hw : wt (swords (l.drop 1).dropLast) = (l.drop 1).dropLast.length + 1 := by rw [swords_eq, sw_wt]; simp
          have e := take1 h40
          have l2 : 2 ≤ l.length := by
            cases q : l.drop 1 with
            | nil => rw [q] at e; rw [e] at h41; exact absurd (List.cons.inj h41).1 (by decide)
            | cons x y => rw [q] at e; rw [e]; simp
          rw [List.length_dropLast, List.length_drop] at hw
          refine ⟨?_, ?_⟩
          · show max (ht a) (ht b) + 1 < n + 1
            omega
          · show (40 :: (showC a ++ 32 :: (_ ++ 32 :: (showC b ++ [41])))).length ≤ l.length
            match q : swords (l.drop 1).dropLast, h3 with
            | [x, g, y], _ =>
              rw [q] at hw a2 b2
              have e1 : wt [x, g, y] = x.length + 1 + (g.length + 1 + (y.length + 1 + 0)) := rfl
              have a2' : (showC a).length ≤ x.length := a2
              have b2' : (showC b).length ≤ y.length := b2
              rw [e1] at hw
              show (40 :: (showC a ++ 32 :: (g ++ 32 :: (showC b ++ [41])))).length ≤ l.length
              simp only [List.length_cons, List.length_append, List.length_nil]
              omega
      · cases h
theorem wf_ok : ∀ {t : Vl}, Wf t → Ok t
  | .nm _, _ => trivial
  | .nw _, _ => trivial
  | .ps, _ => trivial
  | .num m, h => by
    have h' : (TL.numL m.natAbs).length ≤ 20 := h
    show m.natAbs.log2 < 1920
    have hb : ∀ (k n : Nat), (TL.numL n).length ≤ k → n < 10 ^ k := fun k => by
      induction k with
      | zero => intro n q; have := TL.numL_ne n; exact absurd (List.length_eq_zero_iff.mp (Nat.le_zero.mp q)) this
      | succ k ih =>
        intro n q
        by_cases h10 : n < 10
        · exact Nat.lt_of_lt_of_le h10 (by rw [Nat.pow_succ]; have := Nat.pow_pos (n := k) (show 0 < 10 by decide); omega)
        · rw [TL.numL_step (by omega), List.length_append, List.length_singleton] at q
          have := ih (n / 10) (by omega)
          rw [Nat.pow_succ]; omega
    have := hb 20 _ h'
    have e : (10 : Nat) ^ 20 < 2 ^ 1920 := by decide +kernel
    exact PySem.Flt.log2_lt_of (by decide) (Nat.lt_trans this e)
  | .neg v, h => wf_ok (t := v) h
  | .bin _ _ _, ⟨hg, ha, hb, _⟩ => ⟨hg, wf_ok ha, wf_ok hb⟩
/-- value_of_text -/
def vot (l : Cs) : Option Vl := if dep l > 12 then none else match vin 13 l with
  | none => none
  | some t => if showC t = l then some t else none
section
variable {P : Program} {w : World} {K : PySem.W.Frag} {mg : Str → Option Value} {base : Heap} {C f : Addr} {fd : FuncData}
def spVot (C : Addr) : Sp := fun vs H Q _ => ∃ l : Cs, vs = [vS l] ∧ l.length ≤ 50000 ∧ ∀ v H', Ex H H' → VinRes C H' (vot l) v → Q v H'
def rCount : V → List V → Hp → VK → Prop := fun x xs H Q => ∃ a b, x = .str a ∧ xs = [.str b] ∧ Q (.int (Txt.count a b)) H
theorem ev_count {σ : L2.St} {H : Hp} {te : TE} {a : Cs} {c : Nat} {w : Str} (h : Ev te σ H (vS a)) (e : w = S [c]) : Ev (tM1 (fun x xs H Q => ∃ a b, x = .str a ∧ xs = [.str b] ∧ Q (.int (Txt.count a b)) H) te (tC (.str w))) σ H (.int (a.count c : Int)) := fun H1 e1 Q q =>
  h H1 e1 _ fun H2 e2 => ⟨⟨_, rfl⟩, _, _, rfl, rfl, by rw [e, count_S]; exact q H2 e2⟩
theorem ok_value_of_text (F : Fun K "value_of_text" "value_of_text" s_value_of_text f fd) (T : Txt K mg C) (c_value_in : Cal P w K mg base 19 "value_in" (spVin C 13) []) (c_show_value : Cal P w K mg base 13 "show_value" (spShow C 13) []) :
    FnOk P w K mg base L2.CX0 20 f fd ["text"] (spVot C) := by
  refine F.ok sc_value_of_text (fun vs H Q E h => ?_) (fun cdv A outer s H vs Q E hr h => ?_)
  · obtain ⟨l, rfl, _⟩ := h
    rfl
  obtain ⟨l, rfl, hz, k⟩ := h
  refine ⟨_, (pss_cons (ps_if (pt_cmpR op_gt (pe_op op_add (pe_m1 PySem.F.slot_str_count PySem.F.type_str_count mt_count (pv 0) pe_str) (pe_m1 PySem.F.slot_str_count PySem.F.type_str_count mt_count (pv 0) pe_str)) (C8.pe_gc rfl T.MOST_SIGNS) (nomark _)) (pss_one (ps_ret pe_non)) pss_nil) (pss_cons (ps_set (i := 1) sc_value_of_text.nd rfl (Or.inl rfl) (C8.pe_c c_value_in hr (by omega) rfl (pa_cons (pv 0) pa_nil))) (pss_one (ps_ret (pe_ifExp (PW.pt (pw_or (pt_cmpR op_isN (pv 1) pe_non (nomark _)) (pw_or1 (pt_cmpR op_ne (C8.pe_c c_show_value hr (by omega) rfl (pa_cons (pv 1) pa_nil)) (pv 0) (nomark _))))) pe_non (pv 1)))))), ?_⟩
  refine q_when (et_test (ev_op (ev_op (ev_count (c := 40) (ev_var rfl) (by decide +kernel)) (ev_count (c := 126) (ev_var rfl) (by decide +kernel)) rv_I0) ev_c rv_I0)) (fun q H1 e1 => ?_) (fun q H1 e1 => ?_)
  · have q' := of_decide_eq_true q
    have e : vot l = none := if_pos (show dep l > 12 by unfold dep; omega)
    exact s_ret ev_c fun H2 e2 => k _ _ (e1.trans e2) (by rw [e]; rfl)
  · have q' := of_decide_eq_false q
    have hd : ¬ dep l > 12 := by unfold dep; omega
    have e : vot l = (match vin 13 l with | none => none | some t => if showC t = l then some t else none) := if_neg hd
    refine ⟨_, rfl, l, rfl, by omega, hz, fun v H2 e2 hv => ?_⟩
    have hn := hv.non
    cases hq : vin 13 l with
    | none =>
      rw [hq] at hn hv e
      refine et_or (a := true) (b := true) (et_test (ev_isN (ev_var (v := v) rfl) hn)) (fun q => by cases q) H2 (Ex.refl _) _ fun H3 e3 => ?_
      exact k _ _ (e1.trans (e2.trans e3)) (by rw [e]; rfl)
    | some t =>
      rw [hq] at hn hv e
      have e : vot l = if showC t = l then some t else none := e
      obtain ⟨hh, hl⟩ := vin_ht _ _ _ hq
      refine et_or (a := false) (b := !decide (showC t = l)) (et_test (ev_isN (ev_var (v := v) rfl) hn)) (fun _ => et_test (ev_is (ev_op (ev_call (vs := [v]) (ea_cons (ev_var rfl) ea_nil) (sp_show hv hh (by omega) (wf_ok (vin_wf _ _ _ hq)))) (ev_var rfl) (rv_ne rfl)) (by rw [dstr rfl]))) H2 (Ex.refl _) _ fun H3 e3 => ?_
      by_cases hs : showC t = l
      · rw [decide_eq_true hs]
        refine iteF ⟨_, rfl, k _ _ (e1.trans (e2.trans e3)) ?_⟩
        rw [e, if_pos hs]; exact ValAt.mono e3 hv
      · rw [decide_eq_false hs]
        refine iteT (k _ _ (e1.trans (e2.trans e3)) ?_)
        rw [e, if_neg hs]; rfl
end
end E60
namespace E60
open PySem L2 Evl SX
abbrev s__law_integer : Stmt := topS 42
theorem sc__law_integer : FnScope ["wording", "digits", "sign"] ["wording"] (defScope s__law_integer) := ⟨rfl, rfl, rfl, by decide +kernel, rfl, by decide +kernel, by decide +kernel⟩
abbrev s__law_run_of : Stmt := topS 43
theorem sc__law_run_of : FnScope ["wording", "at", "allowed", "spot"] ["wording", "at", "allowed"] (defScope s__law_run_of) := ⟨rfl, rfl, rfl, by decide +kernel, rfl, by decide +kernel, by decide +kernel⟩
abbrev s__law_name_end : Stmt := topS 44
theorem sc__law_name_end : FnScope ["wording", "at", "spot"] ["wording", "at"] (defScope s__law_name_end) := ⟨rfl, rfl, rfl, by decide +kernel, rfl, by decide +kernel, by decide +kernel⟩
abbrev s__law_ends : Stmt := topS 45
theorem sc__law_ends : FnScope ["wording", "at", "lead", "spot", "later", "sign", "end", "part"] ["wording", "at"] (defScope s__law_ends) := ⟨rfl, rfl, rfl, by decide +kernel, rfl, by decide +kernel, by decide +kernel⟩
abbrev s__law_is_value : Stmt := topS 46
theorem sc__law_is_value : FnScope ["wording"] ["wording"] (defScope s__law_is_value) := ⟨rfl, rfl, rfl, by decide +kernel, rfl, by decide +kernel, by decide +kernel⟩

/-! ### lists of texts compared -/
theorem dpall_S {K : PySem.W.Frag} {H : Hp} : ∀ l : List Cs, DpAll K H (l.map vS) (l.map fun x => PyData.str (S x))
  | [] => .nil
  | x :: r => .cons (.str _) (dpall_S r)
theorem eqvAll_S : ∀ a b : List Cs, PyData.eqvAll (a.map fun x => PyData.str (S x)) (b.map fun x => PyData.str (S x)) = decide (a = b)
  | [], [] => rfl
  | [], _ :: _ => rfl
  | _ :: _, [] => rfl
  | x :: xs, y :: ys => by
    show ((S x == S y) && PyData.eqvAll (xs.map _) (ys.map _)) = _
    rw [eqvAll_S xs ys, S_beq_eq]
    by_cases h1 : x = y <;> by_cases h2 : xs = ys <;> simp [h1, h2]
/-- codes of signs -/
def Cok (l : Cs) : Prop := ∀ c ∈ l, c < 1114112
theorem cok_S {x : Cs} (h : Cok x) : PyData.strOk (S x) = true := by
  unfold PyData.strOk
  rw [← Array.all_toList, List.all_eq_true]
  exact fun c hc => decide_eq_true (h c hc)
theorem can_S : ∀ l : List Cs, (∀ x ∈ l, Cok x) → PyData.canLayAll0 (l.map fun x => PyData.str (S x)) = true
  | [], _ => rfl
  | x :: r, h => by
    show (PyData.strOk (S x) && PyData.canLayAll0 (r.map _)) = true
    rw [cok_S (h x List.mem_cons_self), can_S r fun y hy => h y (List.mem_cons_of_mem _ hy)]; rfl
theorem deep_S : ∀ l : List Cs, PyData.depthAll (l.map fun x => PyData.str (S x)) ≤ 1
  | [] => by decide
  | x :: r => by
    have := deep_S r
    show max 0 (PyData.depthAll (r.map _)) ≤ 1
    exact Nat.max_le.mpr ⟨by decide, this⟩
theorem shaped_S {l : List Cs} (h : ∀ x ∈ l, Cok x) : SeqAt.shaped (.list (l.map fun x => PyData.str (S x))) = true := by
  unfold SeqAt.shaped
  have h1 : PyData.canLay0 (.list (l.map fun x => PyData.str (S x))) = true := can_S l h
  have h2 : PyData.depth (.list (l.map fun x => PyData.str (S x))) ≤ 64 := by
    have := deep_S l
    show PyData.depthAll (l.map _) + 1 ≤ 64
    omega
  rw [h1, decide_eq_true h2]; rfl
theorem filter_nil {l : Cs} : decide (((l.filter fun c => !isDig c).map fun c => [c]) = []) = l.all isDig := by
  cases h : l.all isDig with
  | true =>
    refine decide_eq_true ?_
    rw [List.map_eq_nil_iff, List.filter_eq_nil_iff]
    intro c hc
    rw [List.all_eq_true.mp h c hc]; exact Bool.false_ne_true
  | false =>
    refine decide_eq_false fun q => ?_
    rw [List.map_eq_nil_iff, List.filter_eq_nil_iff] at q
    have : l.all isDig = true := List.all_eq_true.mpr fun c hc => by
      have := q c hc
      cases hh : isDig c with
      | true => rfl
      | false => rw [hh] at this; exact absurd rfl this
    rw [this] at h; cases h
theorem numb_bad {l : Cs} (h : (decide (digs l = []) || (decide (20 < (digs l).length) || !(digs l).all isDig)) = true) : isNumb l 20 = false := by
  rw [numb_shape]
  rcases Bool.or_eq_true_iff.mp h with q | q
  · rw [of_decide_eq_true q]; rfl
  rcases Bool.or_eq_true_iff.mp q with q | q
  · have := of_decide_eq_true q
    rw [decide_eq_false (show ¬ (digs l).length ≤ 20 by omega)]; simp
  · rw [Bool.not_eq_true'] at q
    rw [q]; simp
theorem numb_good {l : Cs} (h : (decide (digs l = []) || (decide (20 < (digs l).length) || !(digs l).all isDig)) = false) : ∃ c r, digs l = c :: r ∧ isNumb l 20 = (!decide (c = 48) || decide (l = [48])) := by
  rw [Bool.or_eq_false_iff, Bool.or_eq_false_iff, Bool.not_eq_false'] at h
  obtain ⟨h1, h2, h3⟩ := h
  have h1' := of_decide_eq_false h1
  have h2' := of_decide_eq_false h2
  cases hh : digs l with
  | nil => exact absurd hh h1'
  | cons c r =>
    refine ⟨c, r, rfl, ?_⟩
    rw [numb_shape, h3, hh]
    rw [hh] at h2'
    rw [decide_eq_true (show (c :: r).length ≤ 20 by omega)]
    simp
theorem cok_digs {l : Cs} (h : Cok l) : Cok (digs l) := fun c hc => by
  unfold digs at hc
  split at hc
  · exact h c (List.mem_of_mem_drop hc)
  · exact h c hc
theorem rv_neL {K : PySem.W.Frag} {H : Hp} {p q : Addr} {a b : List Cs} (ha : ∀ x ∈ a, Cok x) (hb : ∀ x ∈ b, Cok x) (h1 : H p = some (.lst (a.map vS))) (h2 : H q = some (.lst (b.map vS))) : RV (rNeD K) (.ref p) (.ref q) H (.bl (!decide (a = b))) := rv_val fun H1 e Q qq =>
  ⟨_, _, .lst (sq_of (e _ _ h1)) (dpall_S a), .lst (sq_of (e _ _ h2)) (dpall_S b), shaped_S ha, shaped_S hb, by
    show Q (.bl (!PyData.eqvAll _ _)) H1
    rw [eqvAll_S]; exact qq⟩
def pos (l : Cs) (r : Option Cs) : Int := match r with
  | none => 0
  | some s => (l.length : Int) - (s.length : Int)
theorem pos_of {l u r : Cs} {a : Nat} (h : l.drop a = u ++ r) (ha : a ≤ l.length) : pos l (some r) = ((a + u.length : Nat) : Int) ∧ l.drop (a + u.length) = r := by
  have e := congrArg List.length h
  rw [List.length_drop, List.length_append] at e
  refine ⟨?_, ?_⟩
  · show (l.length : Int) - (r.length : Int) = _
    omega
  · rw [← List.drop_drop, h, List.drop_left]
section
variable {P : Program} {w : World} {K : PySem.W.Frag} {mg : Str → Option Value} {base : Heap} {C f : Addr} {fd : FuncData}
def spLawInt : Sp := fun vs H Q _ => ∃ l : Cs, vs = [vS l] ∧ l.length ≤ 50000 ∧ Cok l ∧ ∀ H', Ex H H' → Q (.bl (isNumb l 20)) H'
theorem ok_law_integer (F : Fun K "_law_integer" "_law_integer" s__law_integer f fd) (T : Txt K mg C) : FnOk P w K mg base L2.CX0 1 f fd ["wording"] spLawInt := by
  refine F.ok sc__law_integer (fun vs H Q E h => ?_) (fun cdv A outer s H vs Q E hr h => ?_)
  · obtain ⟨l, rfl, _⟩ := h
    rfl
  obtain ⟨l, rfl, hz, hc, k⟩ := h
  have hcd : Cok (digs l) := cok_digs hc
  refine ⟨_, (pss_cons (ps_set (i := 1) sc__law_integer.nd rfl (Or.inl rfl) (pe_ifExp (pt_cmpR op_eq (pe_slice C8.sl_txt (pv 0) po_none (po_some pe_int)) pe_str (nomark _)) (pe_slice C8.sl_txt (pv 0) (po_some pe_int) po_none) (pv 0))) (pss_cons (ps_if (PW.pt (pw_or (pt_cmpR op_eq (pv 1) pe_str (nomark _)) (pw_or (pt_cmpR op_gt (pe_callB call_len_str (by rfl) T.len (by decide +kernel) (pa_cons (pv 1) pa_nil)) pe_int (nomark _)) (pw_or1 (pt_cmpR (op_neD hr.units) (pe_lc (own := [("sign", 2)]) (g := gName 2) (by rfl) sc__law_integer.nd (pi_str (pv 1)) (blkOk_by (own := [("sign", 2)]) (N := ["wording", "digits", "sign"]) (sc := defScope s__law_integer) (by decide +kernel)) (fun _ _ _ _ _ => pg_name (i := 2) sc__law_integer.nd rfl (Or.inl rfl)) (fun _ _ _ _ _ => (pts_one (pt_cmpR op_notIn_sign (pv 2) pe_str (by rfl)))) (fun _ _ _ _ _ => (pv 2))) (pe_lst pa_nil) (nomark _)))))) (pss_one (ps_ret pe_bl)) pss_nil) (pss_one (ps_ret (pe_or (pe_cmpR op_ne (pe_ix ix_str (pv 1) pe_int (fun _ _ => rfl)) pe_str (nomark _)) (pe_one (pe_cmpR op_eq (pv 0) pe_str (nomark _)))))))), ?_⟩
  have hd := digs_len l
  have hs := numb_shape l 20
  refine q_asg (digs_ev (ev_var rfl) (by omega) (by decide +kernel)) fun H1 e1 => ?_
  refine q_when (b := decide (digs l = []) || (decide (20 < (digs l).length) || !(digs l).all isDig)) (et_or (et_test (ev_eqS (b := []) (ev_var rfl) (by decide +kernel)))
    (fun _ => et_or (et_test (ev_is (ev_op (ev_lenC (ev_var rfl) (by omega)) ev_c rv_I0) (by congr 1; exact decide_eq_decide.mpr (by omega))))
      (fun _ => et_test (ev_is (ev_opLL (xs := (((digs l).filter fun c => !isDig c).map fun c => [c]).map vS) (ys := ([] : List Cs).map vS) (el_is (el_lcS (fun c => !isDig c) (fun c => vS [c]) (ev_var rfl) (by rw [S_len]; omega) (fun _ => rfl)
          (fun c H' _ => et_test (ev_is (ev_op (ev_var rfl) ev_c rv_niC) (by rw [mem_digits]))) (fun c H' _ _ => ev_var rfl)) (by rw [List.map_map]; rfl)) (el_lst ea_nil (by decide)) (fun p q H' h1 h2 _ => rv_neL (fun x hx => by
            obtain ⟨c, hc', rfl⟩ := List.mem_map.mp hx
            exact fun d hd' => by rw [List.mem_singleton.mp hd']; exact hcd c (List.mem_filter.mp hc').1) (fun x hx => by cases hx) h1 h2)) ?_))))
    (fun q H2 e2 => s_ret ev_c fun H3 e3 => ?_) (fun q H2 e2 => ?_)
  · rw [filter_nil]
  · have kk := k H3 (e1.trans (e2.trans e3))
    rw [numb_bad q] at kk
    exact kk
  · obtain ⟨c, r, hh, hn⟩ := numb_good q
    rw [hh] at hd ⊢
    refine s_ret (ev_is (ev_orV (ev_is (ev_op (ev_op (ev_var rfl) ev_c (rv_ixS (i := ((0 : Nat) : Int)) (c := c) (by rw [S_len]; omega) (atI_nat rfl))) ev_c (rv_ne rfl)) rfl) (fun _ => ev_eqS (b := [48]) (ev_var rfl) (by decide +kernel))) ?_) fun H3 e3 => k H3 (e1.trans (e2.trans e3))
    rw [hn, show decide (V.str ⟨#[c]⟩ = V.str (Str.ofString "0")) = decide ([c] = [48]) from dstr (a := [c]) (by decide +kernel)]
    simp
/-- the place behind a run of signs -/
def spRun : Sp := fun vs H Q _ => ∃ (l : Cs) (a : Nat) (x : Str) (p : Nat → Bool), vs = [vS l, .int a, .str x] ∧ (∀ c, decide (c ∈ x.cps.toList) = p c) ∧ l.length ≤ 50000 ∧ a ≤ 60000 ∧ ∀ H', Ex H H' → Q (.int ((a + ((l.drop a).takeWhile p).length : Nat) : Int)) H'
theorem tw_step {p : Nat → Bool} {l : Cs} {i : Nat} (h : i < l.length) (hp : p (l[i]) = true) : ((l.drop i).takeWhile p).length = ((l.drop (i + 1)).takeWhile p).length + 1 := by
  rw [List.drop_eq_getElem_cons h, List.takeWhile_cons, hp, if_pos rfl, List.length_cons]
theorem tw_stop {p : Nat → Bool} {l : Cs} {i : Nat} (h : i < l.length) (hp : p (l[i]) = false) : ((l.drop i).takeWhile p).length = 0 := by
  rw [List.drop_eq_getElem_cons h, List.takeWhile_cons, hp]; rfl
theorem ok_law_run_of (F : Fun K "_law_run_of" "_law_run_of" s__law_run_of f fd) (T : Txt K mg C) : FnOk P w K mg base L2.CX0 1 f fd ["wording", "at", "allowed"] spRun := by
  refine F.ok sc__law_run_of (fun vs H Q E h => ?_) (fun cdv A outer s H vs Q E hr h => ?_)
  · obtain ⟨l, a, x, p, rfl, _⟩ := h
    rfl
  obtain ⟨l, a, x, p, rfl, hx, hz, ha, k⟩ := h
  refine ⟨_, (pss_cons (ps_set (i := 3) sc__law_run_of.nd rfl (Or.inl rfl) (pv 1)) (pss_cons (ps_while PassesOwn.never (PW.pt (pw_and (pt_cmpR op_lt (pv 3) (pe_callB call_len_str (by rfl) T.len (by decide +kernel) (pa_cons (pv 0) pa_nil)) (nomark _)) (pw_and1 (pt_cmpR op_in_sign (pe_ix ix_str (pv 0) (pv 3) (fun _ _ => rfl)) (pv 2) (by rfl))))) (pss_one (ps_set (i := 3) sc__law_run_of.nd rfl (Or.inl rfl) (pe_op op_add (pv 3) pe_int)))) (pss_one (ps_ret (pv 3))))), ?_⟩
  refine q_asg (ev_var rfl) fun H1 e1 => ?_
  refine q_while (fun m σ' H' => ∃ i : Nat, σ' = [some (vS l), some (.int a), some (.str x), some (.int i)] ∧ m = 60000 + 1 - i ∧ a ≤ i ∧ i ≤ 60000 ∧ Ex H H' ∧ a + ((l.drop a).takeWhile p).length = i + ((l.drop i).takeWhile p).length) (60000 + 1 - a) ⟨a, rfl, rfl, Nat.le_refl _, ha, e1, rfl⟩ ?_
  rintro m σ' H' ⟨i, rfl, rfl, hai, hi, ex, hp⟩
  have hlen : ∀ H'', Ev (tOp (rI0 fun i j => .bl (decide (i < j))) (tVar 3) (tCB (fun xs H Q => ∃ z : Str, xs = [.str z] ∧ z.length ≤ sizeLine ∧ Q (.int (z.length : Nat)) H) (tCons (tVar 0) tNil))) [some (vS l), some (.int (a : Int)), some (.str x), some (.int (i : Int))] H'' (.bl (decide ((i : Int) < (l.length : Int)))) := fun H'' =>
    ev_op (ev_var rfl) (ev_lenC (ev_var rfl) (by omega)) rv_I0
  by_cases hlt : i < l.length
  · refine ⟨p (l[i]), et_is (et_and (a := true) (b := p (l[i])) (et_test (ev_is (hlen _) (by rw [decide_eq_true (by omega)]))) (fun _ => et_test (ev_is (ev_op (ev_op (ev_var rfl) (ev_var rfl) (rv_ixS (i := ((i : Nat) : Int)) (c := l[i]) (by rw [S_len]; omega) (atI_nat (List.getElem?_eq_getElem hlt)))) (ev_var rfl) rv_inC) (by rw [hx])))) rfl, fun q H2 e2 => ?_, fun q H2 e2 => ?_⟩
    · refine ⟨fun σ2 H3 => σ2 = [some (vS l), some (.int a), some (.str x), some (.int ((i + 1 : Nat) : Int))] ∧ Ex H H3, ?_, ?_⟩
      · rintro σ2 H3 ⟨rfl, e3⟩
        refine ⟨60000 + 1 - (i + 1), by omega, i + 1, rfl, rfl, by omega, by omega, e3, ?_⟩
        rw [hp, tw_step hlt q]; omega
      · exact s_asg (ev_op (ev_var rfl) ev_c rv_I0) fun H3 e3 => ⟨rfl, ex.trans (e2.trans e3)⟩
    · refine s_ret (ev_var rfl) fun H3 e3 => ?_
      have kk := k H3 (ex.trans (e2.trans e3))
      rw [hp, tw_stop hlt q] at kk
      exact kk
  · refine ⟨false, et_is (et_and (a := false) (b := false) (et_test (ev_is (hlen _) (by rw [decide_eq_false (by omega)]))) (fun q => absurd q Bool.false_ne_true)) rfl, fun q => absurd q Bool.false_ne_true, fun _ H2 e2 => ?_⟩
    refine s_ret (ev_var rfl) fun H3 e3 => ?_
    have kk := k H3 (ex.trans (e2.trans e3))
    rw [hp, List.drop_of_length_le (by omega)] at kk
    exact kk
def spNameEnd : Sp := fun vs H Q _ => ∃ (l : Cs) (a : Nat), vs = [vS l, .int a] ∧ l.length ≤ 50000 ∧ a ≤ 55000 ∧ ∀ H', Ex H H' → Q (.int (pos l (nameEat (l.drop a)))) H'
theorem sp_run {l : Cs} {a : Nat} {x : Str} {H : Hp} (p : Nat → Bool) (hx : ∀ c, decide (c ∈ x.cps.toList) = p c) (hz : l.length ≤ 50000) (ha : a ≤ 60000) : SpV spRun [vS l, .int a, .str x] H (.int ((a + ((l.drop a).takeWhile p).length : Nat) : Int)) := fun _ _ _ q _ => ⟨l, a, x, p, rfl, hx, hz, ha, q⟩
theorem tw_le (p : Nat → Bool) (l : Cs) : (l.takeWhile p).length ≤ l.length := (List.takeWhile_sublist p).length_le
theorem pos_name (l : Cs) (a : Nat) : pos l (nameEat (l.drop a)) = if 1 ≤ ((l.drop a).takeWhile isLow).length ∧ ((l.drop a).takeWhile isLow).length < 9 then ((a + ((l.drop a).takeWhile isLow).length : Nat) : Int) else 0 := by
  unfold nameEat
  split
  · rename_i h
    have ha : a ≤ l.length := by
      by_cases q : a ≤ l.length
      · exact q
      · rw [List.drop_of_length_le (by omega)] at h; simp at h
    exact (pos_of (tw_split isLow (l.drop a)).symm ha).1
  · rfl
theorem ok_law_name_end (F : Fun K "_law_name_end" "_law_name_end" s__law_name_end f fd) (T : Txt K mg C) (c__law_run_of : Cal P w K mg base 1 "_law_run_of" spRun []) : FnOk P w K mg base L2.CX0 2 f fd ["wording", "at"] spNameEnd := by
  refine F.ok sc__law_name_end (fun vs H Q E h => ?_) (fun cdv A outer s H vs Q E hr h => ?_)
  · obtain ⟨l, a, rfl, _⟩ := h
    rfl
  obtain ⟨l, a, rfl, hz, ha, k⟩ := h
  refine ⟨_, (pss_cons (ps_set (i := 2) sc__law_name_end.nd rfl (Or.inl rfl) (C8.pe_c c__law_run_of hr (by omega) rfl (pa_cons (pv 0) (pa_cons (pv 1) (pa_cons pe_str pa_nil))))) (pss_one (ps_ret (pe_ifExp (pt_chain op_lt op_lt (pv 1) (pv 2) (pe_op op_add (pv 1) pe_int)) (pv 2) pe_int)))), ?_⟩
  refine q_asg (ev_call (ea_cons (ev_var rfl) (ea_cons (ev_var rfl) (ea_cons ev_c ea_nil))) (sp_run isLow mem_letters hz (by omega))) fun H1 e1 => ?_
  refine s_ret (ev_if (et_test (ev_chain (ev_var rfl) (ev_var rfl) rv_I0 (fun _ => ev_op (ev_var rfl) ev_c rv_I0) (fun _ => rv_I0))) (fun q => ev_is (ev_var rfl) ?_) (fun q => ev_is ev_c ?_)) fun H2 e2 => k H2 (e1.trans e2)
  all_goals rw [pos_name]
  · rw [Bool.and_eq_true, decide_eq_true_eq, decide_eq_true_eq] at q
    rw [if_pos (by omega)]
  · rw [if_neg]
    intro h
    rw [decide_eq_true (by omega), decide_eq_true (by omega)] at q
    cases q
end
end E60
namespace E60
open PySem L2 Evl SX
theorem ev_sft {σ : L2.St} {H : Hp} {te tl th : TE} {a : Cs} {i j : Nat} (h : Ev te σ H (vS a)) (hi : Ev tl σ H (.int (i : Int))) (hj : Ev th σ H (.int (j : Int))) (hz : a.length ≤ 100000) : Ev (tSl C8.rSlX te (tPart tl) (tPart th)) σ H (vS ((a.drop i).take (j - i))) :=
  ev_is (ev_slS h (eo_some hi) (eo_some hj) (by rw [S_len]; exact hz)) (by rw [slice_ft])
theorem ev_sf1 {σ : L2.St} {H : Hp} {te tl : TE} {a : Cs} {i : Nat} (h : Ev te σ H (vS a)) (hi : Ev tl σ H (.int (i : Int))) (hz : a.length ≤ 100000) : Ev (tSl C8.rSlX te (tPart tl) (tPart (tOp (rI0 fun i j => .int (i + j)) tl (tC (.int 1))))) σ H (vS ((a.drop i).take 1)) :=
  ev_is (ev_sft (j := i + 1) h hi (ev_op hi ev_c rv_I0) hz) (by rw [Nat.add_sub_cancel_left])
theorem mem_sg (c : Nat) : decide (c ∈ (Str.ofString "-0123456789").cps.toList) = isSg c := by
  have e : (Str.ofString "-0123456789").cps.toList = 45 :: List.range' 48 10 := by decide +kernel
  rw [e]
  unfold isSg
  rw [← mem_digits, digits_l]
  by_cases h1 : c = 45 <;> by_cases h2 : c ∈ List.range' 48 10 <;> simp [h1, h2]
def spEnds (n : Nat) : Sp := fun vs H Q _ => ∃ (l : Cs) (a : Nat), vs = [vS l, .int a] ∧ dep (l.drop a) < n ∧ l.length ≤ 50000 ∧ a ≤ 54000 ∧ Cok l ∧ ∀ H', Ex H H' → Q (.int (pos l (eat n (l.drop a)))) H'
theorem pos_pos {l r : Cs} {a n : Nat} (h : eat n (l.drop a) = some r) : ∃ u : Cs, l.drop a = u ++ r ∧ u ≠ [] ∧ a < l.length := by
  obtain ⟨v, hw, e⟩ := eat_sound n _ _ h
  have hne : l.drop a ≠ [] := fun q => by
    rw [q] at h
    cases n <;> (unfold eat at h; cases h)
  refine ⟨showC v, e, ?_, ?_⟩
  · cases v with
    | nm s =>
      intro q
      have q' : s = [] := q
      subst q'
      exact absurd (show isNm [] = true from hw) (by decide)
    | nw s => exact List.cons_ne_nil _ _
    | ps => exact List.cons_ne_nil _ _
    | num k => obtain ⟨c, s, e, _⟩ := intC_cases k; show intC k ≠ []; rw [e]; exact List.cons_ne_nil _ _
    | neg u => exact List.cons_ne_nil _ _
    | bin g x y => exact List.cons_ne_nil _ _
  · exact Classical.byContradiction fun q => hne (List.drop_of_length_le (by omega))

theorem eat_63 {n : Nat} {s : Cs} : eat (n + 1) (63 :: s) = some s := rfl
theorem eat_126 {n : Nat} {s : Cs} : eat (n + 1) (126 :: s) = eat n s := rfl
theorem eat_33 {n : Nat} {s : Cs} : eat (n + 1) (33 :: s) = nameEat s := rfl
theorem eat_low {n : Nat} {c : Nat} {s : Cs} (h : isLow c = true) : eat (n + 1) (c :: s) = nameEat (c :: s) := by
  have hn := low_ne (isLow_iff.mp h)
  conv => lhs; unfold eat
  rw [if_neg hn.1, if_neg hn.2.1, if_neg hn.2.2.1, if_pos hn.2.2.2, if_pos h]
theorem eat_num {n : Nat} {c : Nat} {s : Cs} (h1 : c ≠ 63) (h2 : c ≠ 126) (h3 : c ≠ 33) (h4 : c ≠ 40) (h : isLow c = false) : eat (n + 1) (c :: s) = if isNumb ((c :: s).takeWhile isSg) 20 = true then some ((c :: s).dropWhile isSg) else none := by
  conv => lhs; unfold eat
  rw [if_neg h1, if_neg h2, if_neg h3, if_pos h4, if_neg (by rw [h]; exact Bool.false_ne_true)]
def eat3 (g s3 r3 : Cs) : Option Cs := if g ∈ dvs ∧ (isNumb (s3.take (s3.length - r3.length)) 20 = false ∨ intOf (s3.take (s3.length - r3.length)) < 1) then none else if r3.take 1 = [41] then some (r3.drop 1) else none
def eat2 (n : Nat) (r : Cs) : Option Cs := if r.take 1 ≠ [32] then none
  else if (r.drop 1).takeWhile not32 ∉ sgs ∨ ((r.drop 1).dropWhile not32).take 1 ≠ [32] then none
  else match eat n (((r.drop 1).dropWhile not32).drop 1) with
    | none => none
    | some r3 => eat3 ((r.drop 1).takeWhile not32) (((r.drop 1).dropWhile not32).drop 1) r3
theorem eat_40 {n : Nat} {s : Cs} : eat (n + 1) (40 :: s) = (match eat n s with | none => none | some r => eat2 n r) := rfl
theorem take_tw (p : Nat → Bool) (x : Cs) : x.take (x.takeWhile p).length = x.takeWhile p := (List.prefix_iff_eq_take.mp (List.takeWhile_prefix p)).symm
theorem sp_ends {n : Nat} {l : Cs} {a : Nat} {H : Hp} (hd : dep (l.drop a) < n) (hz : l.length ≤ 50000) (ha : a ≤ 54000) (hc : Cok l) : SpV (spEnds n) [vS l, .int a] H (.int (pos l (eat n (l.drop a)))) := fun _ _ _ q _ => ⟨l, a, rfl, hd, hz, ha, hc, q⟩
theorem sp_name {l : Cs} {a : Nat} {H : Hp} (hz : l.length ≤ 50000) (ha : a ≤ 55000) : SpV spNameEnd [vS l, .int a] H (.int (pos l (nameEat (l.drop a)))) := fun _ _ _ q _ => ⟨l, a, rfl, hz, ha, q⟩
theorem sp_lint {l : Cs} {H : Hp} (hz : l.length ≤ 50000) (hc : Cok l) : SpV spLawInt [vS l] H (.bl (isNumb l 20)) := fun _ _ _ q _ => ⟨l, rfl, hz, hc, q⟩
theorem t1_ne {c d : Nat} {s : Cs} (h : c ≠ d) : decide ((c :: s).take 1 = [d]) = false := decide_eq_false fun q => h (tk1 q)
theorem t1_eq {c : Nat} {s : Cs} : decide ((c :: s).take 1 = [c]) = true := decide_eq_true (by simp)
theorem ev_int {σ : L2.St} {H : Hp} {te : TE} {l : Cs} (hz : l.length ≤ 50000) (h : isNumb l 20 = true) (he : Ev te σ H (vS l)) : Ev (tCB (fun xs H Q => ∃ a n, xs = [.str a] ∧ PySem.intText? a = some n ∧ a.length ≤ 640 ∧ Q (.int n) H) (tCons te tNil)) σ H (.int (intOf l)) := fun H1 e Q q =>
  he H1 e _ fun H2 e2 => ⟨S l, intOf l, rfl, (numb_text h).1, by rw [S_len]; have := (numb_text h).2; omega, q H2 e2⟩
section
variable {P : Program} {w : World} {K : PySem.W.Frag} {mg : Str → Option Value} {base : Heap} {C f : Addr} {fd : FuncData}
theorem ok_law_ends {n : Nat} (F : Fun K "_law_ends" "_law_ends" s__law_ends f fd) (T : Txt K mg C) (c__law_ends : Cal P w K mg base (n + 2) "_law_ends" (spEnds n) []) (c__law_name_end : Cal P w K mg base 2 "_law_name_end" spNameEnd [])
    (c__law_run_of : Cal P w K mg base 1 "_law_run_of" spRun []) (c__law_integer : Cal P w K mg base 1 "_law_integer" spLawInt []) : FnOk P w K mg base L2.CX0 (n + 3) f fd ["wording", "at"] (spEnds (n + 1)) := by
  refine F.ok sc__law_ends (fun vs H Q E h => ?_) (fun cdv A outer s H vs Q E hr h => ?_)
  · obtain ⟨l, a, rfl, _⟩ := h
    rfl
  obtain ⟨l, a, rfl, hd, hz, ha, hc, k⟩ := h
  refine ⟨_, (pss_cons (ps_set (i := 2) sc__law_ends.nd rfl (Or.inl rfl) (pe_slice C8.sl_txt (pv 0) (po_some (pv 1)) (po_some (pe_op op_add (pv 1) pe_int)))) (pss_cons (ps_if (pt_cmpR op_eq (pv 2) pe_str (nomark _)) (pss_one (ps_ret (pe_op op_add (pv 1) pe_int))) pss_nil) (pss_cons (ps_if (pt_cmpR op_eq (pv 2) pe_str (nomark _)) (pss_one (ps_ret (C8.pe_c c__law_ends hr (by omega) rfl (pa_cons (pv 0) (pa_cons (pe_op op_add (pv 1) pe_int) pa_nil))))) pss_nil) (pss_cons (ps_if (pt_cmpR op_eq (pv 2) pe_str (nomark _)) (pss_one (ps_ret (C8.pe_c c__law_name_end hr (by omega) rfl (pa_cons (pv 0) (pa_cons (pe_op op_add (pv 1) pe_int) pa_nil))))) pss_nil) (pss_cons (ps_if (pt_cmpR op_ne (pv 2) pe_str (nomark _)) (pss_cons (ps_if (PW.pt (pw_and (pt_cmpR op_ne (pv 2) pe_str (nomark _)) (pw_and1 (pt_cmpR op_in_sign (pv 2) pe_str (by rfl))))) (pss_one (ps_ret (C8.pe_c c__law_name_end hr (by omega) rfl (pa_cons (pv 0) (pa_cons (pv 1) pa_nil))))) pss_nil) (pss_cons (ps_set (i := 3) sc__law_ends.nd rfl (Or.inl rfl) (C8.pe_c c__law_run_of hr (by omega) rfl (pa_cons (pv 0) (pa_cons (pv 1) (pa_cons pe_str pa_nil))))) (pss_one (ps_ret (pe_ifExp (pt_val (C8.pe_c c__law_integer hr (by omega) rfl (pa_cons (pe_slice C8.sl_txt (pv 0) (po_some (pv 1)) (po_some (pv 3))) pa_nil))) (pv 3) pe_int))))) pss_nil) (pss_cons (ps_set (i := 3) sc__law_ends.nd rfl (Or.inl rfl) (C8.pe_c c__law_ends hr (by omega) rfl (pa_cons (pv 0) (pa_cons (pe_op op_add (pv 1) pe_int) pa_nil)))) (pss_cons (ps_if (PW.pt (pw_or (pt_cmpR op_eq (pv 3) pe_int (nomark _)) (pw_or1 (pt_cmpR op_ne (pe_slice C8.sl_txt (pv 0) (po_some (pv 3)) (po_some (pe_op op_add (pv 3) pe_int))) pe_str (nomark _))))) (pss_one (ps_ret pe_int)) pss_nil) (pss_cons (ps_set (i := 4) sc__law_ends.nd rfl (Or.inl rfl) (pe_op op_add (pv 3) pe_int)) (pss_cons (ps_while PassesOwn.never (PW.pt (pw_and (pt_cmpR op_lt (pv 4) (pe_callB call_len_str (by rfl) T.len (by decide +kernel) (pa_cons (pv 0) pa_nil)) (nomark _)) (pw_and1 (pt_cmpR op_ne (pe_ix ix_str (pv 0) (pv 4) (fun _ _ => rfl)) pe_str (nomark _))))) (pss_one (ps_set (i := 4) sc__law_ends.nd rfl (Or.inl rfl) (pe_op op_add (pv 4) pe_int)))) (pss_cons (ps_set (i := 5) sc__law_ends.nd rfl (Or.inl rfl) (pe_slice C8.sl_txt (pv 0) (po_some (pe_op op_add (pv 3) pe_int)) (po_some (pv 4)))) (pss_cons (ps_if (PW.pt (pw_or (pt_cmpR op_notIn_seq (pv 5) (pe_tup (pa_cons pe_str (pa_cons pe_str (pa_cons pe_str (pa_cons pe_str (pa_cons pe_str (pa_cons pe_str (pa_cons pe_str (pa_cons pe_str (pa_cons pe_str pa_nil)))))))))) (by rfl)) (pw_or1 (pt_cmpR op_ne (pe_slice C8.sl_txt (pv 0) (po_some (pv 4)) (po_some (pe_op op_add (pv 4) pe_int))) pe_str (nomark _))))) (pss_one (ps_ret pe_int)) pss_nil) (pss_cons (ps_set (i := 6) sc__law_ends.nd rfl (Or.inl rfl) (C8.pe_c c__law_ends hr (by omega) rfl (pa_cons (pv 0) (pa_cons (pe_op op_add (pv 4) pe_int) pa_nil)))) (pss_cons (ps_set (i := 7) sc__law_ends.nd rfl (Or.inl rfl) (pe_slice C8.sl_txt (pv 0) (po_some (pe_op op_add (pv 4) pe_int)) (po_some (pv 6)))) (pss_cons (ps_if (PW.pt (pw_or (pt_cmpR op_eq (pv 6) pe_int (nomark _)) (pw_or1 (PW.pt (pw_and (pt_cmpR op_in_seq (pv 5) (pe_tup (pa_cons pe_str (pa_cons pe_str pa_nil))) (by rfl)) (pw_and1 (PW.pt (pw_or (pt_not (pt_val (C8.pe_c c__law_integer hr (by omega) rfl (pa_cons (pv 7) pa_nil)))) (pw_or1 (pt_cmpR op_lt (pe_callTy call_int_str (by rfl) T.int (by decide +kernel) (pa_cons (pv 7) pa_nil)) pe_int (nomark _))))))))))) (pss_one (ps_ret pe_int)) pss_nil) (pss_one (ps_ret (pe_ifExp (pt_cmpR op_eq (pe_slice C8.sl_txt (pv 0) (po_some (pv 6)) (po_some (pe_op op_add (pv 6) pe_int))) pe_str (nomark _)) (pe_op op_add (pv 6) pe_int) pe_int))))))))))))))))), ?_⟩
  refine q_asg (v := vS ((l.drop a).take 1)) (ev_sf1 (ev_var rfl) (ev_var rfl) (by omega)) fun H1 e1 => ?_
  cases hs : l.drop a with
  | nil =>
    -- nothing there
    rw [hs] at k
    refine q_when (et_test (ev_eqS (a := []) (b := [63]) (ev_var rfl) (by decide +kernel))) (fun q => by cases q) (fun q H2 e2 => ?_)
    refine q_when (et_test (ev_eqS (a := []) (b := [126]) (ev_var rfl) (by decide +kernel))) (fun q => by cases q) (fun q H3 e3 => ?_)
    refine q_when (et_test (ev_eqS (a := []) (b := [33]) (ev_var rfl) (by decide +kernel))) (fun q => by cases q) (fun q H4 e4 => ?_)
    refine q_when (et_test (ev_neS (a := []) (b := [40]) (ev_var rfl) (by decide +kernel))) (fun q H5 e5 => ?_) (fun q => by cases q)
    refine q_when (et_and (a := false) (b := false) (et_test (ev_neS (a := []) (b := []) (ev_var rfl) (by decide +kernel))) (fun q => by cases q)) (fun q => by cases q) (fun q H6 e6 => ?_)
    refine q_asg (ev_call (ea_cons (ev_var rfl) (ea_cons (ev_var rfl) (ea_cons ev_c ea_nil))) (sp_run isSg mem_sg hz (by omega))) fun H7 e7 => ?_
    have hsl : (l.drop a).take (a + ((l.drop a).takeWhile isSg).length - a) = [] := by rw [hs]; simp
    refine s_ret (ev_if (b := false) (et_B (ev_call (vs := [vS []]) (ea_cons (ev_is (ev_sft (ev_var rfl) (ev_var rfl) (ev_var rfl) (by omega)) (by rw [hsl])) ea_nil) (sp_lint (by decide) (fun d hd' => by cases hd'))))
      (fun q => by cases q) (fun q => ev_c)) fun H8 e8 => k _ (e1.trans (e2.trans (e3.trans (e4.trans (e5.trans (e6.trans (e7.trans e8)))))))
  | cons c s =>
  have hal : a < l.length := Classical.byContradiction fun q => by rw [List.drop_of_length_le (by omega)] at hs; cases hs
  have hs1 : l.drop (a + 1) = s := by rw [← List.drop_drop, hs]; rfl
  rw [hs] at hd k
  refine q_when (et_test (ev_eqS (b := [63]) (ev_var rfl) (by decide +kernel))) (fun q H2 e2 => ?_) (fun q H2 e2 => ?_)
  · have q' := tk1 (of_decide_eq_true q)
    subst q'
    rw [eat_63, (pos_of (u := [63]) hs (by omega)).1] at k
    exact s_ret (ev_op (ev_var rfl) ev_c rv_I0) fun H3 e3 => k _ (e1.trans (e2.trans e3))
  have c63 : c ≠ 63 := fun e => by subst e; rw [t1_eq] at q; cases q
  refine q_when (et_test (ev_eqS (b := [126]) (ev_var rfl) (by decide +kernel))) (fun q H3 e3 => ?_) (fun q H3 e3 => ?_)
  · have q' := tk1 (of_decide_eq_true q)
    subst q'
    rw [eat_126] at k
    rw [dep_cons] at hd
    simp only [if_true, show ¬ (126 = 40) by decide, if_false] at hd
    refine s_ret (ev_call (vs := [vS l, .int ((a + 1 : Nat) : Int)]) (ea_cons (ev_var rfl) (ea_cons (ev_op (ev_var rfl) ev_c rv_I0) ea_nil)) (sp_ends (by rw [hs1]; omega) hz (by omega) hc)) fun H4 e4 => ?_
    rw [hs1]
    exact k _ (e1.trans (e2.trans (e3.trans e4)))
  have c126 : c ≠ 126 := fun e => by subst e; rw [t1_eq] at q; cases q
  refine q_when (et_test (ev_eqS (b := [33]) (ev_var rfl) (by decide +kernel))) (fun q H4 e4 => ?_) (fun q H4 e4 => ?_)
  · have q' := tk1 (of_decide_eq_true q)
    subst q'
    rw [eat_33] at k
    refine s_ret (ev_call (vs := [vS l, .int ((a + 1 : Nat) : Int)]) (ea_cons (ev_var rfl) (ea_cons (ev_op (ev_var rfl) ev_c rv_I0) ea_nil)) (sp_name hz (by omega))) fun H5 e5 => ?_
    rw [hs1]
    exact k _ (e1.trans (e2.trans (e3.trans (e4.trans e5))))
  have c33 : c ≠ 33 := fun e => by subst e; rw [t1_eq] at q; cases q
  have ex4 : Ex H H4 := e1.trans (e2.trans (e3.trans e4))
  refine q_when (et_test (ev_neS (b := [40]) (ev_var rfl) (by decide +kernel))) (fun q H5 e5 => ?_) (fun q H5 e5 => ?_)
  · have c40 : c ≠ 40 := fun e => by subst e; rw [t1_eq] at q; cases q
    refine q_when (et_and (et_test (ev_neS (b := []) (ev_var rfl) (by decide +kernel))) (fun _ => et_test (ev_is (ev_op (ev_var (v := .str ⟨#[c]⟩) rfl) ev_c rv_inC) (by rw [mem_letters])))) (fun q H6 e6 => ?_) (fun q H6 e6 => ?_)
    · rw [Bool.and_eq_true] at q
      rw [eat_low q.2, ← hs] at k
      exact ⟨_, rfl, _, rfl, l, a, rfl, hz, by omega, fun H7 e7 => k _ (ex4.trans (e5.trans (e6.trans e7)))⟩
    · have hl : isLow c = false := by simpa using q
      rw [eat_num c63 c126 c33 c40 hl, ← hs] at k
      refine q_asg (ev_call (ea_cons (ev_var rfl) (ea_cons (ev_var rfl) (ea_cons ev_c ea_nil))) (sp_run isSg mem_sg hz (by omega))) fun H7 e7 => ?_
      have hsl : (l.drop a).take (a + ((l.drop a).takeWhile isSg).length - a) = (l.drop a).takeWhile isSg := by
        rw [Nat.add_sub_cancel_left]
        exact take_tw _ _
      have hwl : ((l.drop a).takeWhile isSg).length ≤ 50000 := by
        have := tw_le isSg (l.drop a)
        rw [List.length_drop] at this; omega
      have hwc : Cok ((l.drop a).takeWhile isSg) := fun d hd' => hc d (List.mem_of_mem_drop ((List.takeWhile_sublist isSg).subset hd'))
      refine s_ret (ev_if (b := isNumb ((l.drop a).takeWhile isSg) 20) (et_B (ev_call (vs := [vS ((l.drop a).takeWhile isSg)]) (ea_cons (ev_is (ev_sft (ev_var rfl) (ev_var rfl) (ev_var rfl) (by omega)) (by rw [hsl])) ea_nil) (fun _ _ _ qq _ => ⟨_, rfl, hwl, hwc, qq⟩)))
        (fun q => ev_is (ev_var rfl) ?_) (fun q => ev_is ev_c ?_)) fun H8 e8 => k _ (ex4.trans (e5.trans (e6.trans (e7.trans e8))))
      · rw [if_pos q, (pos_of (tw_split isSg (l.drop a)).symm (by omega)).1]
      · rw [if_neg (by rw [q]; exact Bool.false_ne_true)]; rfl
  · have c40 : c = 40 := by
      have q' : (c :: s).take 1 = [40] := by simpa using q
      exact tk1 q'
    subst c40
    rw [eat_40] at k
    rw [dep_cons] at hd
    simp only [if_true, show ¬ (40 = 126) by decide, if_false] at hd
    have ex5 : Ex H H5 := ex4.trans e5
    refine q_asg (v := .int (pos l (eat n s))) (ev_is (ev_call (vs := [vS l, .int ((a + 1 : Nat) : Int)]) (ea_cons (ev_var rfl) (ea_cons (ev_op (ev_var rfl) ev_c rv_I0) ea_nil)) (sp_ends (by rw [hs1]; omega) hz (by omega) hc)) (by rw [hs1])) fun H6 e6 => ?_
    cases hr1 : eat n s with
    | none =>
      rw [hr1] at k
      exact q_when (et_or (a := true) (b := true) (et_test (ev_is (ev_op (ev_var rfl) ev_c (rv_eq rfl)) rfl)) (fun q => absurd q (by decide))) (fun _ H7 e7 => s_ret ev_c fun H8 e8 => k _ (ex5.trans (e6.trans (e7.trans e8)))) (fun q => absurd q (by decide))
    | some r =>
    rw [hr1] at k
    obtain ⟨u, hu, hune, _⟩ := pos_pos (l := l) (a := a + 1) (n := n) (r := r) (by rw [hs1]; exact hr1)
    obtain ⟨hp1, hdr⟩ := pos_of hu (by omega)
    rw [hp1]
    have hblen : a + 1 + u.length ≤ l.length := by
      have := congrArg List.length hu
      rw [List.length_drop, List.length_append] at this; omega
    have hb1 : 1 ≤ a + 1 + u.length := by omega
    have hdepr : dep r ≤ dep s := by rw [← hs1, hu, dep_app]; omega
    generalize a + 1 + u.length = b at hdr hblen hb1 ⊢
    -- if spot == 0 or wording[spot:spot + 1] != ' '
    refine q_when (b := !decide (r.take 1 = [32])) (et_is (et_or (a := false) (b := !decide (r.take 1 = [32])) (et_test (ev_is (ev_op (ev_var rfl) ev_c (rv_eq rfl)) (by rw [decide_eq_false (fun q => by have := V.int.inj q; omega)])))
      (fun _ => et_test (ev_neS (b := [32]) (ev_is (ev_sf1 (i := b) (ev_var rfl) (ev_var rfl) (by omega)) (by rw [hdr])) (by decide +kernel)))) rfl) (fun q H7 e7 => ?_) (fun q H7 e7 => ?_)
    · have q' : r.take 1 ≠ [32] := by simpa using q
      have k' : ∀ H', Ex H H' → Q (.int 0) H' := fun H' e => by
        have kk := k H' e
        rw [show (match some r with | none => none | some r => eat2 n r) = none from if_pos q'] at kk
        exact kk
      exact s_ret ev_c fun H8 e8 => k' _ (ex5.trans (e6.trans (e7.trans e8)))
    have hr32 : r.take 1 = [32] := by simpa using q
    have hd1 : l.drop (b + 1) = r.drop 1 := by rw [← List.drop_drop, hdr]
    -- g, what stands behind it
    obtain ⟨g, hg⟩ : ∃ g, (r.drop 1).takeWhile not32 = g := ⟨_, rfl⟩
    obtain ⟨r2, hr2⟩ : ∃ r2, (r.drop 1).dropWhile not32 = r2 := ⟨_, rfl⟩
    have hgr : r.drop 1 = g ++ r2 := by rw [← hg, ← hr2]; exact (tw_split not32 _).symm
    have k : ∀ H', Ex H H' → Q (.int (pos l (if g ∉ sgs ∨ r2.take 1 ≠ [32] then none else match eat n (r2.drop 1) with
          | none => none
          | some r3 => eat3 g (r2.drop 1) r3))) H' := fun H' e => by
      have kk := k H' e
      have e0 : eat2 n r = (if g ∉ sgs ∨ r2.take 1 ≠ [32] then none else match eat n (r2.drop 1) with
          | none => none
          | some r3 => eat3 g (r2.drop 1) r3) := by
        unfold eat2
        rw [if_neg (fun q => q hr32), hg, hr2]
      rw [show (match some r with | none => none | some r => eat2 n r) = eat2 n r from rfl, e0] at kk
      exact kk
    have hbl : b + 1 ≤ l.length := by
      have e := take1 hr32
      have := congrArg List.length hdr
      rw [List.length_drop, e, List.length_cons] at this; omega
    obtain ⟨_, hd2⟩ := pos_of (l := l) (a := b + 1) (u := g) (r := r2) (by rw [hd1]; exact hgr) hbl
    have hglen : b + 1 + g.length ≤ l.length := by
      have := congrArg List.length hgr
      rw [← hd1, List.length_drop, List.length_append] at this; omega
    have hdep2 : dep r2 ≤ dep r := by
      have a1 : dep (r.drop 1) ≤ dep r := dep_drop1 r
      rw [hgr, dep_app] at a1; omega
    refine q_asg (v := .int ((b + 1 : Nat) : Int)) (ev_op (ev_var rfl) ev_c rv_I0) fun H8 e8 => ?_
    have ex8 : Ex H H8 := ex5.trans (e6.trans (e7.trans e8))
    refine q_while (fun m σ' H' => ∃ i : Nat, σ' = [some (vS l), some (.int a), some (vS ((40 :: s).take 1)), some (.int b), some (.int i), none, none, none] ∧ m = 60000 - i ∧ i ≤ 55000 ∧ Ex H H' ∧ b + 1 + g.length = i + ((l.drop i).takeWhile not32).length) (60000 - (b + 1)) ⟨b + 1, rfl, rfl, by omega, ex8, by rw [hd1, hg]⟩ ?_
    rintro m σ' H' ⟨i, rfl, rfl, hi, ex, hp⟩
    have hlen : ∀ H'', Ev (tOp (rI0 fun i j => .bl (decide (i < j))) (tVar 4) (tCB (fun xs H Q => ∃ z : Str, xs = [.str z] ∧ z.length ≤ sizeLine ∧ Q (.int (z.length : Nat)) H) (tCons (tVar 0) tNil))) [some (vS l), some (.int (a : Int)), some (vS ((40 :: s).take 1)), some (.int (b : Int)), some (.int (i : Int)), none, none, none] H'' (.bl (decide ((i : Int) < (l.length : Int)))) := fun H'' =>
      ev_op (ev_var rfl) (ev_lenC (ev_var rfl) (by omega)) rv_I0
    have hil : i ≤ l.length := by omega
    refine ⟨decide (i < l.length) && not32 (l.getD i 32), et_is (et_and (a := decide (i < l.length)) (b := not32 (l.getD i 32)) (et_test (ev_is (hlen _) (by congr 1; exact decide_eq_decide.mpr (by omega)))) (fun q => ?_)) rfl, fun q H9 e9 => ?_, fun q H9 e9 => ?_⟩
    · have hlt := of_decide_eq_true q
      refine et_test (ev_is (ev_neS (a := [l[i]]) (b := [32]) (ev_op (ev_var rfl) (ev_var rfl) (rv_ixS (i := ((i : Nat) : Int)) (c := l[i]) (by rw [S_len]; omega) (atI_nat (List.getElem?_eq_getElem hlt)))) (by decide +kernel)) ?_)
      rw [List.getD_eq_getElem?_getD, List.getElem?_eq_getElem hlt]
      show V.bl (!decide ([l[i]] = [32])) = V.bl (not32 l[i])
      unfold not32
      congr 2
      exact decide_eq_decide.mpr ⟨fun q => (List.cons.inj q).1, fun q => by rw [q]⟩
    · rw [Bool.and_eq_true, decide_eq_true_eq] at q
      have hq : not32 l[i] = true := by
        have := q.2
        rwa [List.getD_eq_getElem?_getD, List.getElem?_eq_getElem q.1] at this
      refine ⟨fun σ2 H3 => σ2 = [some (vS l), some (.int a), some (vS ((40 :: s).take 1)), some (.int b), some (.int ((i + 1 : Nat) : Int)), none, none, none] ∧ Ex H H3, ?_, ?_⟩
      · rintro σ2 H3 ⟨rfl, e3⟩
        have := tw_step q.1 hq
        exact ⟨60000 - (i + 1), by omega, i + 1, rfl, rfl, by omega, e3, by omega⟩
      · exact s_asg (ev_op (ev_var rfl) ev_c rv_I0) fun H3 e3 => ⟨rfl, ex.trans (e9.trans e3)⟩
    -- behind the loop
    have hz0 : ((l.drop i).takeWhile not32).length = 0 := by
      by_cases hlt : i < l.length
      · rw [decide_eq_true hlt, Bool.true_and, List.getD_eq_getElem?_getD, List.getElem?_eq_getElem hlt] at q
        exact tw_stop hlt q
      · rw [List.drop_of_length_le (by omega)]; rfl
    have hid : i = b + 1 + g.length := by omega
    subst hid
    have ex9 : Ex H H9 := ex.trans e9
    have hgs : (l.drop (b + 1)).take (b + 1 + g.length - (b + 1)) = g := by
      rw [hd1, hgr, Nat.add_sub_cancel_left, List.take_left]
    refine q_asg (v := vS g) (ev_is (ev_sft (i := b + 1) (ev_var rfl) (ev_op (ev_var rfl) ev_c rv_I0) (ev_var rfl) (by omega)) (by rw [hgs])) fun H10 e10 => ?_
    generalize hdd : b + 1 + g.length = d at hd2 hglen hgs ⊢
    have ex10 := ex9.trans e10
    refine q_when (b := (!decide (g ∈ sgs)) || !decide (r2.take 1 = [32])) (et_or (et_test (ev_is (ev_niU (ev_var (v := vS g) rfl) (eu_tup (vs := sgs.map vS) (ea_cons (ev_cS (by decide +kernel)) (ea_cons (ev_cS (by decide +kernel)) (ea_cons (ev_cS (by decide +kernel)) (ea_cons (ev_cS (by decide +kernel)) (ea_cons (ev_cS (by decide +kernel)) (ea_cons (ev_cS (by decide +kernel)) (ea_cons (ev_cS (by decide +kernel)) (ea_cons (ev_cS (by decide +kernel)) (ea_cons (ev_cS (by decide +kernel)) ea_nil))))))))) (by decide)) rfl (flat_S sgs)) (by rw [inV_S])))
      (fun _ => et_test (ev_neS (b := [32]) (ev_is (ev_sf1 (i := d) (ev_var rfl) (ev_var rfl) (by omega)) (by rw [hd2])) (by decide +kernel)))) (fun q H11 e11 => ?_) (fun q H11 e11 => ?_)
    · have q' : g ∉ sgs ∨ r2.take 1 ≠ [32] := by simpa using q
      rw [if_pos q'] at k
      exact s_ret ev_c fun H12 e12 => k _ (ex10.trans (e11.trans e12))
    have q' : ¬ (g ∉ sgs ∨ r2.take 1 ≠ [32]) := fun h => by
      have : ((!decide (g ∈ sgs)) || !decide (r2.take 1 = [32])) = true := by simpa using h
      rw [this] at q; cases q
    rw [if_neg q'] at k
    have hr232 : r2.take 1 = [32] := Classical.byContradiction fun h => q' (.inr h)
    have ex11 := ex10.trans e11
    have hd3 : l.drop (d + 1) = r2.drop 1 := by rw [← List.drop_drop, hd2]
    have hdl : d + 1 ≤ l.length := by
      have e := take1 hr232
      have := congrArg List.length hd2
      rw [List.length_drop, e, List.length_cons] at this; omega
    have hdep3 : dep (r2.drop 1) ≤ dep r2 := dep_drop1 r2
    refine q_asg (v := .int (pos l (eat n (r2.drop 1)))) (ev_is (ev_call (vs := [vS l, .int ((d + 1 : Nat) : Int)]) (ea_cons (ev_var rfl) (ea_cons (ev_op (ev_var rfl) ev_c rv_I0) ea_nil)) (sp_ends (by rw [hd3]; omega) hz (by omega) hc)) (by rw [hd3])) fun H12 e12 => ?_
    have ex12 := ex11.trans e12
    generalize hs3 : r2.drop 1 = s3 at k hd3 ⊢
    cases hr3 : eat n s3 with
    | none =>
      rw [hr3] at k
      refine q_asg (v := vS ((l.drop (d + 1)).take (0 - (d + 1)))) (ev_sft (i := d + 1) (j := 0) (ev_var rfl) (ev_op (ev_var rfl) ev_c rv_I0) (ev_var rfl) (by omega)) fun H13 e13 => ?_
      exact q_when (et_or (a := true) (b := true) (et_test (ev_is (ev_op (ev_var rfl) ev_c (rv_eq rfl)) rfl)) (fun q => absurd q (by decide))) (fun _ H14 e14 => s_ret ev_c fun H15 e15 => k _ (ex12.trans (e13.trans (e14.trans e15)))) (fun q => absurd q (by decide))
    | some r3 =>
    rw [hr3] at k
    have k : ∀ H', Ex H H' → Q (.int (pos l (eat3 g s3 r3))) H' := k
    obtain ⟨u3, hu3, hu3ne, _⟩ := pos_pos (l := l) (a := d + 1) (n := n) (r := r3) (by rw [hd3]; exact hr3)
    obtain ⟨hp3, hdr3⟩ := pos_of hu3 hdl
    rw [hp3]
    have hel : d + 1 + u3.length ≤ l.length := by
      have := congrArg List.length hu3
      rw [List.length_drop, List.length_append] at this; omega
    have hpart : (l.drop (d + 1)).take (d + 1 + u3.length - (d + 1)) = u3 := by rw [hu3, Nat.add_sub_cancel_left, List.take_left]
    have hpart2 : s3.take (s3.length - r3.length) = u3 := by
      rw [← hd3, hu3, List.length_append, Nat.add_sub_cancel, List.take_left]
    have hu3c : Cok u3 := fun x hx => hc x (List.mem_of_mem_drop (i := d + 1) (by rw [hu3]; exact List.mem_append_left _ hx))
    refine q_asg (v := vS u3) (ev_is (ev_sft (i := d + 1) (j := d + 1 + u3.length) (ev_var rfl) (ev_op (ev_var rfl) ev_c rv_I0) (ev_var rfl) (by omega)) (by rw [hpart])) fun H13 e13 => ?_
    have hu3l : u3.length ≤ 50000 := by omega
    generalize hee : d + 1 + u3.length = e at hdr3 hel ⊢
    have ex13 := ex12.trans e13
    unfold eat3 at k
    rw [hpart2] at k
    refine q_when (b := decide (g ∈ dvs) && (!isNumb u3 20 || decide (intOf u3 < 1))) (et_is (et_or (a := false) (b := decide (g ∈ dvs) && (!isNumb u3 20 || decide (intOf u3 < 1))) (et_test (ev_is (ev_op (ev_var rfl) ev_c (rv_eq rfl)) (by rw [decide_eq_false (fun q => by have := V.int.inj q; omega)])))
      (fun _ => et_and (et_test (ev_is (ev_inU (ev_var (v := vS g) rfl) (eu_tup (vs := dvs.map vS) (ea_cons (ev_cS (by decide +kernel)) (ea_cons (ev_cS (by decide +kernel)) ea_nil)) (by decide)) rfl (flat_S dvs)) (by rw [inV_S])))
        (fun _ => et_or (et_not (et_B (ev_call (vs := [vS u3]) (ea_cons (ev_var rfl) ea_nil) (sp_lint hu3l hu3c)))) (fun hn => et_test (ev_op (ev_int hu3l (by simpa using hn) (ev_var rfl)) ev_c rv_I0))))) rfl) (fun q H14 e14 => ?_) (fun q H14 e14 => ?_)
    · have q' : g ∈ dvs ∧ (isNumb u3 20 = false ∨ intOf u3 < 1) := by simpa using q
      rw [if_pos q'] at k
      exact s_ret ev_c fun H15 e15 => k _ (ex13.trans (e14.trans e15))
    · have q' : ¬ (g ∈ dvs ∧ (isNumb u3 20 = false ∨ intOf u3 < 1)) := fun h => by
        have : (decide (g ∈ dvs) && (!isNumb u3 20 || decide (intOf u3 < 1))) = true := by simpa using h
        rw [this] at q; cases q
      rw [if_neg q'] at k
      refine s_ret (ev_if (et_test (ev_eqS (b := [41]) (ev_is (ev_sf1 (i := e) (ev_var rfl) (ev_var rfl) (by omega)) (by rw [hdr3])) (by decide +kernel))) (fun q => ev_is (ev_op (ev_var rfl) ev_c rv_I0) ?_) (fun q => ev_is ev_c ?_)) fun H15 e15 => k _ (ex13.trans (e14.trans e15))
      · have q41 := of_decide_eq_true q
        rw [if_pos q41]
        have e41 := take1 q41
        have := (pos_of (l := l) (a := e) (u := [41]) (r := r3.drop 1) (by rw [hdr3]; exact e41) hel).1
        rw [this]; rfl
      · rw [if_neg (of_decide_eq_false q)]; rfl
end
end E60
namespace E60
open PySem L2 Evl SX
abbrev s__law_pool : Stmt := topS 36
theorem sc__law_pool : FnScope ["script", "spot", "seed"] ["script", "spot"] (defScope s__law_pool) := ⟨rfl, rfl, rfl, by decide +kernel, rfl, by decide +kernel, by decide +kernel⟩
abbrev s__law_draw : Stmt := topS 37
theorem sc__law_draw : FnScope ["pool", "span", "drawn", "mixed"] ["pool", "span"] (defScope s__law_draw) := ⟨rfl, rfl, rfl, by decide +kernel, rfl, by decide +kernel, by decide +kernel⟩
abbrev s__law_leaf : Stmt := topS 38
theorem sc__law_leaf : FnScope ["pool", "names_here", "nows_here", "pick"] ["pool", "names_here", "nows_here"] (defScope s__law_leaf) := ⟨rfl, rfl, rfl, by decide +kernel, rfl, by decide +kernel, by decide +kernel⟩
abbrev s__law_long : Stmt := topS 39
theorem sc__law_long : FnScope ["pool", "names_here", "nows_here", "signs", "pick", "first", "sign", "piece"] ["pool", "names_here", "nows_here", "signs"] (defScope s__law_long) := ⟨rfl, rfl, rfl, by decide +kernel, rfl, by decide +kernel, by decide +kernel⟩

theorem vot_some {l : Cs} : (vot l).isSome = (decide (dep l ≤ 12) && decide (eat 13 l = some [])) := by
  unfold vot
  by_cases h : dep l > 12
  · rw [if_pos h, decide_eq_false (by omega)]; rfl
  · rw [if_neg h, decide_eq_true (by omega), Bool.true_and]
    have hb := both_read (t := l) (by omega)
    cases hv : vin 13 l with
    | none =>
      rw [decide_eq_false]; rfl
      intro q
      obtain ⟨v, h1, _⟩ := hb.mpr q
      rw [hv] at h1; cases h1
    | some t =>
      show (if showC t = l then some t else none).isSome = _
      by_cases hs : showC t = l
      · rw [if_pos hs, decide_eq_true (hb.mp ⟨t, hv, hs⟩)]; rfl
      · rw [if_neg hs, decide_eq_false]; rfl
        intro q
        obtain ⟨v, h1, h2⟩ := hb.mpr q
        rw [hv] at h1; cases h1; exact hs h2
theorem eat_nil (n : Nat) : eat n [] = none := by cases n <;> rfl
section
variable {P : Program} {w : World} {K : PySem.W.Frag} {mg : Str → Option Value} {base : Heap} {C f : Addr} {fd : FuncData}
def spIsVal : Sp := fun vs H Q _ => ∃ l : Cs, vs = [vS l] ∧ l.length ≤ 50000 ∧ Cok l ∧ ∀ H', Ex H H' → Q (.bl (vot l).isSome) H'
theorem ok_law_is_value (F : Fun K "_law_is_value" "_law_is_value" s__law_is_value f fd) (T : Txt K mg C) (c__law_ends : Cal P w K mg base 15 "_law_ends" (spEnds 13) []) : FnOk P w K mg base L2.CX0 16 f fd ["wording"] spIsVal := by
  refine F.ok sc__law_is_value (fun vs H Q E h => ?_) (fun cdv A outer s H vs Q E hr h => ?_)
  · obtain ⟨l, rfl, _⟩ := h
    rfl
  obtain ⟨l, rfl, hz, hc, k⟩ := h
  refine ⟨_, (pss_cons (ps_if (pt_cmpR op_gt (pe_op op_add (pe_m1 PySem.F.slot_str_count PySem.F.type_str_count mt_count (pv 0) pe_str) (pe_m1 PySem.F.slot_str_count PySem.F.type_str_count mt_count (pv 0) pe_str)) pe_int (nomark _)) (pss_one (ps_ret pe_bl)) pss_nil) (pss_one (ps_ret (pe_and (pe_cmpR op_ne (pv 0) pe_str (nomark _)) (pe_one (pe_cmpR op_eq (C8.pe_c c__law_ends hr (by omega) rfl (pa_cons (pv 0) (pa_cons pe_int pa_nil))) (pe_callB call_len_str (by rfl) T.len (by decide +kernel) (pa_cons (pv 0) pa_nil)) (nomark _))))))), ?_⟩
  refine q_when (et_test (ev_op (ev_op (ev_count (c := 126) (ev_var rfl) (by decide +kernel)) (ev_count (c := 40) (ev_var rfl) (by decide +kernel)) rv_I0) ev_c rv_I0)) (fun q H1 e1 => ?_) (fun q H1 e1 => ?_)
  · have q' := of_decide_eq_true q
    have e : (vot l).isSome = false := by rw [vot_some, decide_eq_false (show ¬ dep l ≤ 12 by unfold dep; omega)]; rfl
    rw [e] at k
    exact s_ret ev_c fun H2 e2 => k _ (e1.trans e2)
  · have q' := of_decide_eq_false q
    have hd : dep l ≤ 12 := by unfold dep; omega
    refine s_ret (ev_is (ev_andV (ev_neS (b := []) (ev_var rfl) (by decide +kernel)) (fun hn => ev_op (ev_call (vs := [vS l, .int ((0 : Nat) : Int)]) (ea_cons (ev_var rfl) (ea_cons ev_c ea_nil)) (sp_ends (n := 13) (l := l) (a := 0) (by rw [List.drop_zero]; omega) hz (by omega) hc)) (ev_lenC (ev_var rfl) (by omega)) (rv_eq rfl))) ?_) fun H2 e2 => k _ (e1.trans e2)
    rw [vot_some, decide_eq_true hd, Bool.true_and, List.drop_zero]
    by_cases hl : l = []
    · subst hl
      rw [eat_nil, decide_eq_true rfl]; rfl
    · rw [decide_eq_false hl]
      show V.bl (true && _) = _
      rw [Bool.true_and]
      congr 1
      refine decide_eq_decide.mpr ⟨fun q => ?_, fun q => by rw [q]; show V.int ((l.length : Int) - 0) = _; rw [Int.sub_zero]⟩
      have q2 := V.int.inj q
      cases he : eat 13 l with
      | none =>
        rw [he] at q2
        have : (0 : Int) = (l.length : Int) := q2
        exact absurd (List.length_eq_zero_iff.mp (by omega)) hl
      | some r =>
        rw [he] at q2
        have : (l.length : Int) - (r.length : Int) = (l.length : Int) := q2
        rw [List.length_eq_zero_iff.mp (show r.length = 0 by omega)]
/-! ### draws -/
/-- all but the object at a stands as it was -/
def Go (a : Addr) (H H' : Hp) : Prop := ∀ b o, b ≠ a → H b = some o → H' b = some o
theorem Go.refl (a : Addr) (H : Hp) : Go a H H := fun _ _ _ h => h
theorem Go.trans {a : Addr} {H H1 H2 : Hp} (x : Go a H H1) (y : Go a H1 H2) : Go a H H2 := fun b o n h => y b o n (x b o n h)
theorem Go.of {a : Addr} {H H' : Hp} (e : Ex H H') : Go a H H' := fun b o _ h => e b o h
theorem Go.upd {a : Addr} {H : Hp} {o : HO} : Go a H (upd H a o) := fun b u n h => by rw [upd_ne n]; exact h
/-- the pool at a: at most n were mixed -/
def PoolAt (a : Addr) (n : Nat) (H : Hp) : Prop := ∃ d m c : Int, H a = some (.lst [.int d, .int m, .int c]) ∧ 0 ≤ m ∧ m < 2 ^ 70 ∧ 0 ≤ c ∧ c ≤ n
theorem PoolAt.mono {a : Addr} {n n' : Nat} {H : Hp} (h : PoolAt a n H) (hn : n ≤ n') : PoolAt a n' H := by
  obtain ⟨d, m, c, h1, h2, h3, h4, h5⟩ := h
  exact ⟨d, m, c, h1, h2, h3, h4, by omega⟩
theorem PoolAt.ex {a : Addr} {n : Nat} {H H' : Hp} (h : PoolAt a n H) (e : Ex H H') : PoolAt a n H' := by
  obtain ⟨d, m, c, h1, h2⟩ := h
  exact ⟨d, m, c, e _ _ h1, h2⟩
def spDraw : Sp := fun vs H Q _ => ∃ (a : Addr) (s : Int) (n : Nat), vs = [.ref a, .int s] ∧ 0 < s ∧ s < 2 ^ 100 ∧ n < 2 ^ 40 ∧ PoolAt a n H ∧ ∀ (r : Int) H', 0 ≤ r → r < s → Go a H H' → PoolAt a (n + 1) H' → Q (.int r) H'
theorem ok_law_draw (F : Fun K "_law_draw" "_law_draw" s__law_draw f fd) (T : Txt K mg C) : FnOk P w K mg base L2.CX0 1 f fd ["pool", "span"] spDraw := by
  refine F.ok sc__law_draw (fun vs H Q E h => ?_) (fun cdv A outer s H vs Q E hr h => ?_)
  · obtain ⟨a, s, n, rfl, _⟩ := h
    rfl
  obtain ⟨a, sp, n, rfl, hs0, hs1, hn, ⟨d, m, c, hp, hm0, hm1, hc0, hc1⟩, k⟩ := h
  refine ⟨_, (pss_cons (ps_if (pt_cmpR op_gt (pe_ix ix_list (pv 0) pe_int (fun _ _ => rfl)) pe_int (nomark _)) (pss_cons (ps_set (i := 2) sc__law_draw.nd rfl (Or.inl rfl) (pe_op op_modN (pe_callTy call_int1 (by rfl) T.int (by decide +kernel) (pa_cons (pe_ix ix_list (pv 0) pe_int (fun _ _ => rfl)) pa_nil)) (pv 1))) (pss_cons (ps_asg (pe_op op_fdivW (pe_ix ix_list (pv 0) pe_int (fun _ _ => rfl)) (pv 1)) (pg_sub (pv 0) pe_int set_list)) (pss_one (ps_ret (pv 2))))) pss_nil) (pss_cons (ps_asg (pe_op op_add (pe_ix ix_list (pv 0) pe_int (fun _ _ => rfl)) pe_int) (pg_sub (pv 0) pe_int set_list)) (pss_cons (ps_set (i := 3) sc__law_draw.nd rfl (Or.inl rfl) (pe_op op_modN (pe_callTy call_int1 (by rfl) T.int (by decide +kernel) (pa_cons (pe_op op_powW (pe_op op_add (pe_ix ix_list (pv 0) pe_int (fun _ _ => rfl)) (pe_op op_mulW pe_int (pe_ix ix_list (pv 0) pe_int (fun _ _ => rfl)))) pe_int) pa_nil)) pe_int)) (pss_cons (ps_set (i := 3) sc__law_draw.nd rfl (Or.inl rfl) (pe_op op_modN (pe_callTy call_int1 (by rfl) T.int (by decide +kernel) (pa_cons (pe_op op_powW (pe_op op_add (pv 3) (pe_op op_mulW pe_int (pe_ix ix_list (pv 0) pe_int (fun _ _ => rfl)))) pe_int) pa_nil)) pe_int)) (pss_one (ps_ret (pe_op op_modN (pe_callTy call_int1 (by rfl) T.int (by decide +kernel) (pa_cons (pe_op op_fdivW (pv 3) pe_int) pa_nil)) (pv 1)))))))), ?_⟩
  have sl : ∀ {H : Hp} {l : List V}, H a = some (.lst l) → SqL K H a l := fun h => SqL.of h
  have hsp : CDivW d sp := wide_div (b := 100) hs0 (by omega) (by decide) (by decide)
  refine ⟨_, rfl, a, _, ((0 : Nat) : Int), _, rfl, rfl, sl hp, atI_nat rfl, _, _, rfl, rfl, _, rfl, ?_⟩
  refine ite2 (fun q => ?_) (fun q => ?_)
  · refine ⟨_, rfl, a, _, ((0 : Nat) : Int), _, rfl, rfl, sl hp, atI_nat rfl, .inl ⟨_, rfl, ?_⟩⟩
    refine ⟨_, rfl, _, _, rfl, rfl, by omega, ?_⟩
    refine ⟨_, rfl, a, _, ((0 : Nat) : Int), _, rfl, rfl, sl hp, atI_nat rfl, _, rfl, _, _, rfl, rfl, hsp, ?_⟩
    refine ⟨_, rfl, a, _, ((0 : Nat) : Int), 0, rfl, rfl, hp, rfl, ?_⟩
    refine ⟨_, rfl, k _ _ ?_ ?_ Go.upd ⟨d / sp, m, c, upd_same, hm0, hm1, hc0, by omega⟩⟩
    · exact Int.fmod_nonneg_of_pos d hs0
    · exact Int.fmod_lt_of_pos d hs0
  · refine ⟨_, rfl, a, _, ((2 : Nat) : Int), _, rfl, rfl, sl hp, atI_nat rfl, _, _, rfl, rfl, ?_⟩
    refine ⟨_, rfl, a, _, ((2 : Nat) : Int), 2, rfl, rfl, hp, rfl, ?_⟩
    have hp2 : (upd H a (.lst [.int d, .int m, .int (c + 1)])) a = some (.lst [.int d, .int m, .int (c + 1)]) := upd_same
    have c64 : (c + 1).natAbs < 2 ^ 41 := by omega
    have pow41 : (2 : Int) ^ 41 = 2199023255552 := by decide
    have pow70 : (2 : Int) ^ 70 = 1180591620717411303424 := by decide
    refine ⟨_, rfl, a, _, ((1 : Nat) : Int), _, rfl, rfl, sl hp2, atI_nat rfl, ?_⟩
    refine ⟨_, rfl, a, _, ((2 : Nat) : Int), _, rfl, rfl, sl hp2, atI_nat rfl, _, _, rfl, rfl, wide_mul (a := 24) (b := 41) (by decide) c64 (by decide) (by decide) (by decide), _, _, rfl, rfl, ?_⟩
    refine ⟨_, _, rfl, rfl, ⟨by decide, by decide, Nat.lt_trans (PySem.Flt.log2_lt_of (k := 71) (by decide) (by
      have : (2 : Nat) ^ 71 = 2361183241434822606848 := by decide
      omega)) (by decide)⟩, .inl ⟨_, rfl, _, _, rfl, rfl, (show (162259276829213363391578010288127 : Int) ≠ 0 by decide), ?_⟩⟩
    have r1a := Int.fmod_nonneg_of_pos ((m + 15485863 * (c + 1)) ^ (3 : Int).toNat) (show (0 : Int) < 162259276829213363391578010288127 by decide)
    have r1b := Int.fmod_lt_of_pos ((m + 15485863 * (c + 1)) ^ (3 : Int).toNat) (show (0 : Int) < 162259276829213363391578010288127 by decide)
    refine ⟨_, rfl, ?_⟩
    refine ⟨_, rfl, a, _, ((2 : Nat) : Int), _, rfl, rfl, sl hp2, atI_nat rfl, _, _, rfl, rfl, wide_mul (a := 25) (b := 41) (by decide) c64 (by decide) (by decide) (by decide), _, _, rfl, rfl, ?_⟩
    refine ⟨_, _, rfl, rfl, ⟨by decide, by decide, Nat.lt_trans (PySem.Flt.log2_lt_of (k := 108) (by decide) (by
      have : (2 : Nat) ^ 108 = 324518553658426726783156020576256 := by decide
      omega)) (by decide)⟩, .inl ⟨_, rfl, _, _, rfl, rfl, (show (170141183460469231731687303715884105727 : Int) ≠ 0 by decide), ?_⟩⟩
    refine ⟨_, rfl, _, _, rfl, rfl, wide_div (b := 21) (by decide) (by decide) (by decide) (by decide), .inl ⟨_, rfl, ?_⟩⟩
    refine ⟨_, rfl, _, _, rfl, rfl, by omega, ?_⟩
    exact k _ _ (Int.fmod_nonneg_of_pos _ hs0) (Int.fmod_lt_of_pos _ hs0) Go.upd ⟨d, m, c + 1, hp2, hm0, hm1, by omega, by omega⟩
end
end E60
namespace E60
open PySem L2 Evl SX
def PlanAt (H : Hp) : Vl → V → Prop
  | .nm s, v => ∃ p, v = .ref p ∧ H p = some (.tup [.str "c", vS s])
  | .nw s, v => ∃ p, v = .ref p ∧ H p = some (.tup [.str "w", vS s])
  | .ps, v => ∃ p, v = .ref p ∧ H p = some (.tup [.str "g"])
  | .num n, v => ∃ p, v = .ref p ∧ H p = some (.tup [.str "n", .int n])
  | .neg u, v => ∃ p x, v = .ref p ∧ H p = some (.tup [.str "~", x]) ∧ PlanAt H u x
  | .bin g a b, v => ∃ p x y, v = .ref p ∧ H p = some (.tup [vS g, x, y]) ∧ PlanAt H a x ∧ (g ∈ dvs → ∃ d, b = .num d ∧ y = .int d) ∧ (g ∉ dvs → PlanAt H b y)
theorem pool_tup {a p : Addr} {n : Nat} {H : Hp} {xs : List V} (h : PoolAt a n H) (hp : H p = some (.tup xs)) : p ≠ a := fun e => by
  obtain ⟨d, m, c, h1, _⟩ := h
  subst e
  rw [h1] at hp; cases hp
theorem pool_new {a p : Addr} {n : Nat} {H : Hp} (h : PoolAt a n H) (hp : H p = none) : p ≠ a := fun e => by
  obtain ⟨d, m, c, h1, _⟩ := h
  subst e
  rw [h1] at hp; cases hp
theorem PlanAt.go {a : Addr} {n : Nat} {H H' : Hp} (g : Go a H H') (hp : PoolAt a n H) : ∀ {t : Vl} {v : V}, PlanAt H t v → PlanAt H' t v
  | .nm _, _, ⟨p, h1, h2⟩ => ⟨p, h1, g _ _ (pool_tup hp h2) h2⟩
  | .nw _, _, ⟨p, h1, h2⟩ => ⟨p, h1, g _ _ (pool_tup hp h2) h2⟩
  | .ps, _, ⟨p, h1, h2⟩ => ⟨p, h1, g _ _ (pool_tup hp h2) h2⟩
  | .num _, _, ⟨p, h1, h2⟩ => ⟨p, h1, g _ _ (pool_tup hp h2) h2⟩
  | .neg _, _, ⟨p, x, h1, h2, h3⟩ => ⟨p, x, h1, g _ _ (pool_tup hp h2) h2, PlanAt.go g hp h3⟩
  | .bin _ _ _, _, ⟨p, x, y, h1, h2, h3, h4, h5⟩ => ⟨p, x, y, h1, g _ _ (pool_tup hp h2) h2, PlanAt.go g hp h3, h4, fun q => PlanAt.go g hp (h5 q)⟩
theorem PlanAt.mono {H H' : Hp} (e : Ex H H') : ∀ {t : Vl} {v : V}, PlanAt H t v → PlanAt H' t v
  | .nm _, _, ⟨p, h1, h2⟩ => ⟨p, h1, e _ _ h2⟩
  | .nw _, _, ⟨p, h1, h2⟩ => ⟨p, h1, e _ _ h2⟩
  | .ps, _, ⟨p, h1, h2⟩ => ⟨p, h1, e _ _ h2⟩
  | .num _, _, ⟨p, h1, h2⟩ => ⟨p, h1, e _ _ h2⟩
  | .neg _, _, ⟨p, x, h1, h2, h3⟩ => ⟨p, x, h1, e _ _ h2, PlanAt.mono e h3⟩
  | .bin _ _ _, _, ⟨p, x, y, h1, h2, h3, h4, h5⟩ => ⟨p, x, y, h1, e _ _ h2, PlanAt.mono e h3, h4, fun q => PlanAt.mono e (h5 q)⟩
def sz : Vl → Nat
  | .neg v => sz v + 1
  | .bin _ a b => sz a + sz b + 1
  | _ => 0
theorem num_small {n : Int} (h : n.natAbs < 10000) : Wf (.num n) := Nat.le_trans (TL.numL_len (k := 4) (by decide) h) (by decide)
/-- the lists of names at ln -/
def NmsAt (ln a : Addr) (ws : List Cs) (H : Hp) : Prop := H ln = some (.lst (ws.map vS)) ∧ ln ≠ a ∧ ws ≠ [] ∧ ws.length ≤ 50 ∧ ∀ s ∈ ws, isNm s = true
theorem NmsAt.go {ln a : Addr} {ws : List Cs} {H H' : Hp} (h : NmsAt ln a ws H) (g : Go a H H') : NmsAt ln a ws H' := ⟨g _ _ h.2.1 h.1, h.2⟩
theorem nm_cok {s : Cs} (h : isNm s = true) : Cok s := fun c hc => by have := (isNm_iff.mp h).2.2 c hc; omega
section
variable {P : Program} {w : World} {K : PySem.W.Frag} {mg : Str → Option Value} {base : Heap} {C f : Addr} {fd : FuncData}
theorem ev_notN {σ : L2.St} {H : Hp} {te : TE} {v : V} {b : Bool} (h : Ev te σ H v) (e : (!decide (v = .non)) = b) : Ev (tOp (fun x y H Q => y = .non ∧ Q (.bl (!decide (x = .non))) H) te (tC .non)) σ H (.bl b) := by
  subst e
  exact ev_op h ev_c (rv_val fun _ _ _ qq => ⟨rfl, qq⟩)
/-- a list of names is not empty -/
theorem et_names {σ : L2.St} {H : Hp} {te : TE} {ln a : Addr} {ws : List Cs} (h : NmsAt ln a ws H) (he : Ev te σ H (.ref ln)) : EvT (tTest (tOp (rNeD K) te (tLst tNil))) σ H true := by
  refine et_test (ev_opL (x := .ref ln) (xs := ([] : List Cs).map vS) he (el_lst ea_nil (by decide)) fun p H1 h1 e => ?_)
  have := rv_neL (K := K) (H := H1) (p := ln) (q := p) (a := ws) (b := []) (fun s hs => nm_cok (h.2.2.2.2 s hs)) (fun s hs => by cases hs) (e _ _ h.1) h1
  rw [decide_eq_false h.2.2.1] at this
  exact this
def spLeaf : Sp := fun vs H Q _ => ∃ (a ln : Addr) (ws : List Cs) (n : Nat), vs = [.ref a, .ref ln, .ref ln] ∧ NmsAt ln a ws H ∧ n + 10 < 2 ^ 40 ∧ PoolAt a n H ∧
  ∀ v H' t, Go a H H' → PoolAt a (n + 5) H' → PlanAt H' t v → Wf t → sz t = 0 → Q v H'
/-- an item drawn of a list of names -/
theorem pick_name {ws : List Cs} {r : Int} (h0 : 0 ≤ r) (h1 : r < (ws.length : Int)) : ∃ s, s ∈ ws ∧ atI (ws.map vS) r = some (vS s) := by
  obtain ⟨j, rfl⟩ := Int.eq_ofNat_of_zero_le h0
  have hk : j < ws.length := by omega
  refine ⟨ws[j], List.getElem_mem hk, atI_nat ?_⟩
  rw [List.getElem?_map, List.getElem?_eq_getElem hk]; rfl
theorem ok_law_leaf (F : Fun K "_law_leaf" "_law_leaf" s__law_leaf f fd) (T : Txt K mg C) (c__law_draw : Cal P w K mg base 1 "_law_draw" spDraw []) : FnOk P w K mg base L2.CX0 2 f fd ["pool", "names_here", "nows_here"] spLeaf := by
  refine F.ok sc__law_leaf (fun vs H Q E h => ?_) (fun cdv A outer s H vs Q E hr h => ?_)
  · obtain ⟨a, ln, ws, n, rfl, _⟩ := h
    rfl
  obtain ⟨a, ln, ws, n, rfl, hw, hn, hp, k⟩ := h
  refine ⟨_, (pss_cons (ps_set (i := 3) sc__law_leaf.nd rfl (Or.inl rfl) (C8.pe_c c__law_draw hr (by omega) rfl (pa_cons (pv 0) (pa_cons pe_int pa_nil)))) (pss_cons (ps_if (PW.pt (pw_and (pt_cmpR op_eq (pv 3) pe_int (nomark _)) (pw_and1 (pt_cmpR op_notN (pv 2) pe_non (nomark _))))) (pss_one (ps_ret (pe_tup (pa_cons pe_str pa_nil)))) pss_nil) (pss_cons (ps_if (PW.pt (pw_and (pt_cmpR op_in_seq (pv 3) (pe_tup (pa_cons pe_int (pa_cons pe_int pa_nil))) (by rfl)) (pw_and (pt_cmpR op_notN (pv 2) pe_non (nomark _)) (pw_and1 (pt_cmpR (op_neD hr.units) (pv 2) (pe_lst pa_nil) (nomark _)))))) (pss_one (ps_ret (pe_tup (pa_cons pe_str (pa_cons (pe_ix ix_list (pv 2) (C8.pe_c c__law_draw hr (by omega) rfl (pa_cons (pv 0) (pa_cons (pe_callB call_len_seq (by rfl) T.len (by decide +kernel) (pa_cons (pv 2) pa_nil)) pa_nil))) (fun _ _ => rfl)) pa_nil))))) pss_nil) (pss_cons (ps_if (PW.pt (pw_and (pt_cmpR op_lt (pv 3) pe_int (nomark _)) (pw_and1 (pt_cmpR (op_neD hr.units) (pv 1) (pe_lst pa_nil) (nomark _))))) (pss_one (ps_ret (pe_tup (pa_cons pe_str (pa_cons (pe_ix ix_list (pv 1) (C8.pe_c c__law_draw hr (by omega) rfl (pa_cons (pv 0) (pa_cons (pe_callB call_len_seq (by rfl) T.len (by decide +kernel) (pa_cons (pv 1) pa_nil)) pa_nil))) (fun _ _ => rfl)) pa_nil))))) pss_nil) (pss_one (ps_ret (pe_tup (pa_cons pe_str (pa_cons (pe_ix ix_list (pe_lst (pa_cons (pe_op op_sub (C8.pe_c c__law_draw hr (by omega) rfl (pa_cons (pv 0) (pa_cons pe_int pa_nil))) pe_int) (pa_cons (pe_op op_sub (C8.pe_c c__law_draw hr (by omega) rfl (pa_cons (pv 0) (pa_cons pe_int pa_nil))) pe_int) pa_nil))) (pe_callTy call_int1 (by rfl) T.int (by decide +kernel) (pa_cons (pe_cmpR op_eq (C8.pe_c c__law_draw hr (by omega) rfl (pa_cons (pv 0) (pa_cons pe_int pa_nil))) pe_int (nomark _)) pa_nil)) (fun _ _ => rfl)) pa_nil))))))))), ?_⟩
  refine ⟨_, rfl, a, 6, n, rfl, by decide, by decide, by omega, hp, fun r H1 hr0 hr1 g1 p1 => ?_⟩
  have hw1 := hw.go g1
  refine q_when (et_and (et_test (ev_op (ev_var rfl) ev_c (rv_eq rfl))) (fun _ => et_test (ev_notN (ev_var (v := .ref ln) rfl) rfl))) (fun q H2 e2 => ?_) (fun q H2 e2 => ?_)
  · refine s_retU (eu_tup (ea_cons ev_c ea_nil) (by decide)) fun p H3 hp3 e3 h3 => k _ _ .ps (g1.trans (Go.of (e2.trans e3))) ((p1.ex (e2.trans e3)).mono (by omega)) ⟨p, rfl, h3⟩ trivial rfl
  have hw2 : NmsAt ln a ws H2 := hw1.go (Go.of e2)
  have p2 := p1.ex e2
  have ht12 : EvT (tTest (tOp (rIn K false) (tVar 3) (tTup (tCons (tC (.int 1)) (tCons (tC (.int 2)) tNil))))) [some (.ref a), some (.ref ln), some (.ref ln), some (.int r)] H2 (inV (.int r) [.int 1, .int 2]) :=
    et_test (ev_inU (ev_var rfl) (eu_tup (ea_cons ev_c (ea_cons ev_c ea_nil)) (by decide)) rfl rfl)
  refine q_when (et_and ht12 (fun _ => et_and (et_test (ev_notN (ev_var (v := .ref ln) rfl) rfl)) (fun _ => et_names hw2 (ev_var rfl)))) (fun q H3 e3 => ?_) (fun q H3 e3 => ?_)
  · have hw3 : NmsAt ln a ws H3 := hw2.go (Go.of e3)
    refine ⟨_, rfl, _, rfl, _, rfl, ln, _, rfl, .inl (SqL.of hw3.1), a, _, n + 1, rfl, ?_, ?_, by omega, p2.ex e3, fun i H4 i0 i1 g4 p4 => ?_⟩
    · rw [List.length_map]; have := List.length_pos_iff.mpr hw3.2.2.1; omega
    · rw [List.length_map]; have := hw3.2.2.2.1; omega
    have hw4 := hw3.go g4
    rw [List.length_map] at i1
    obtain ⟨s, hs, ha⟩ := pick_name i0 i1
    refine ⟨ln, _, i, _, rfl, rfl, SqL.of hw4.1, ha, by show 2 ≤ sizeLine; decide, fun p hp5 => ?_⟩
    exact k _ _ (.nw s) (g1.trans ((Go.of (e2.trans e3)).trans (g4.trans (Go.of (same_new hp5 _))))) ((p4.ex (same_new hp5 _)).mono (by omega)) ⟨p, rfl, upd_same⟩ (hw4.2.2.2.2 s hs) rfl
  have hw3 : NmsAt ln a ws H3 := hw2.go (Go.of e3)
  have p3 := p2.ex e3
  refine q_when (et_and (et_test (ev_op (ev_var rfl) ev_c rv_I0)) (fun _ => et_names hw3 (ev_var rfl))) (fun q H4 e4 => ?_) (fun q H4 e4 => ?_)
  · have hw4 : NmsAt ln a ws H4 := hw3.go (Go.of e4)
    refine ⟨_, rfl, _, rfl, _, rfl, ln, _, rfl, .inl (SqL.of hw4.1), a, _, n + 1, rfl, ?_, ?_, by omega, p3.ex e4, fun i H5 i0 i1 g5 p5 => ?_⟩
    · rw [List.length_map]; have := List.length_pos_iff.mpr hw4.2.2.1; omega
    · rw [List.length_map]; have := hw4.2.2.2.1; omega
    have hw5 := hw4.go g5
    rw [List.length_map] at i1
    obtain ⟨s, hs, ha⟩ := pick_name i0 i1
    refine ⟨ln, _, i, _, rfl, rfl, SqL.of hw5.1, ha, by show 2 ≤ sizeLine; decide, fun p hp6 => ?_⟩
    exact k _ _ (.nm s) (g1.trans ((Go.of (e2.trans (e3.trans e4))).trans (g5.trans (Go.of (same_new hp6 _))))) ((p5.ex (same_new hp6 _)).mono (by omega)) ⟨p, rfl, upd_same⟩ (hw5.2.2.2.2 s hs) rfl
  refine ⟨_, rfl, a, 9, n + 1, rfl, by decide, by decide, by omega, p3.ex e4, fun x H5 x0 x1 g5 p5 => ?_⟩
  refine ⟨_, _, rfl, rfl, _, rfl, a, 2001, n + 2, rfl, by decide, by decide, by omega, p5, fun y H6 y0 y1 g6 p6 => ?_⟩
  refine ⟨_, _, rfl, rfl, by show 2 ≤ sizeLine; decide, fun p hp7 => ?_⟩
  have p7 := p6.ex (same_new hp7 (.lst [.int (x - 4), .int (y - 1000)]))
  refine ⟨_, rfl, a, 8, n + 3, rfl, by decide, by decide, by omega, p7, fun z H8 z0 z1 g8 p8 => ?_⟩
  have h8 := g8 p _ (pool_new p6 hp7) upd_same
  have gA : Go a H H8 := g1.trans ((Go.of (e2.trans (e3.trans e4))).trans (g5.trans (g6.trans ((Go.of (same_new hp7 _)).trans g8))))
  refine ⟨rfl, .inr ⟨_, rfl, ?_⟩⟩
  have hfin : ∀ i : Int, i.natAbs < 10000 → ∀ (p' : Addr), H8 p' = none → Q (.ref p') (upd H8 p' (.tup [.str "n", .int i])) := fun i hi p' hp' =>
    k _ _ (.num i) (gA.trans (Go.of (same_new hp' _))) ((p8.ex (same_new hp' _)).mono (by omega)) ⟨p', rfl, upd_same⟩ (num_small hi) rfl
  by_cases hz : V.int z = V.int 0
  · rw [decide_eq_true hz]
    exact ⟨p, _, ((1 : Nat) : Int), _, rfl, rfl, SqL.of h8, atI_nat rfl, by show 2 ≤ sizeLine; decide, fun p' hp' => hfin _ (by omega) p' hp'⟩
  · rw [decide_eq_false hz]
    exact ⟨p, _, ((0 : Nat) : Int), _, rfl, rfl, SqL.of h8, atI_nat rfl, by show 2 ≤ sizeLine; decide, fun p' hp' => hfin _ (by omega) p' hp'⟩
/-- a plan of so many signs; enough calls for it -/
def spLong (m : Nat) : Sp := fun vs H Q _ => ∃ (a ln : Addr) (ws : List Cs) (s n : Nat), vs = [.ref a, .ref ln, .ref ln, .int s] ∧ s < m ∧ s ≤ 100 ∧ NmsAt ln a ws H ∧ n + 9 * s + 20 < 2 ^ 40 ∧ PoolAt a n H ∧
  ∀ v H' t, Go a H H' → PoolAt a (n + 9 * s + 5) H' → PlanAt H' t v → Wf t → sz t ≤ s → Q v H'
theorem sgs_at {i : Int} (h0 : 0 ≤ i) (h1 : i < 7) : ∃ g, atI ([[43], [45], [42], [38], [124], [61], [60]].map vS) i = some (vS g) ∧ g ∈ sgs ∧ g ∉ dvs := by
  obtain ⟨j, rfl⟩ := Int.eq_ofNat_of_zero_le h0
  match j, (show j < 7 by omega) with
  | 0, _ => exact ⟨[43], atI_nat (j := 0) rfl, by decide, by decide⟩
  | 1, _ => exact ⟨[45], atI_nat (j := 1) rfl, by decide, by decide⟩
  | 2, _ => exact ⟨[42], atI_nat (j := 2) rfl, by decide, by decide⟩
  | 3, _ => exact ⟨[38], atI_nat (j := 3) rfl, by decide, by decide⟩
  | 4, _ => exact ⟨[124], atI_nat (j := 4) rfl, by decide, by decide⟩
  | 5, _ => exact ⟨[61], atI_nat (j := 5) rfl, by decide, by decide⟩
  | 6, _ => exact ⟨[60], atI_nat (j := 6) rfl, by decide, by decide⟩
theorem dvs_at {i : Int} (h0 : 0 ≤ i) (h1 : i < 2) : ∃ g, atI (dvs.map vS) i = some (vS g) ∧ g ∈ sgs ∧ g ∈ dvs := by
  obtain ⟨j, rfl⟩ := Int.eq_ofNat_of_zero_le h0
  match j, (show j < 2 by omega) with
  | 0, _ => exact ⟨[47, 47], atI_nat (j := 0) rfl, by decide, by decide⟩
  | 1, _ => exact ⟨[109, 111, 100], atI_nat (j := 1) rfl, by decide, by decide⟩
theorem ints_at {xs : List Int} {i : Int} (h0 : 0 ≤ i) (h1 : i < (xs.length : Int)) : ∃ x ∈ xs, atI (xs.map V.int) i = some (.int x) := by
  obtain ⟨j, rfl⟩ := Int.eq_ofNat_of_zero_le h0
  have hk : j < xs.length := by omega
  refine ⟨xs[j], List.getElem_mem hk, atI_nat ?_⟩
  rw [List.getElem?_map, List.getElem?_eq_getElem hk]; rfl
theorem ok_law_long {m : Nat} (F : Fun K "_law_long" "_law_long" s__law_long f fd) (T : Txt K mg C) (c__law_draw : Cal P w K mg base 1 "_law_draw" spDraw []) (c__law_leaf : Cal P w K mg base 2 "_law_leaf" spLeaf []) (c__law_long : Cal P w K mg base (m + 2) "_law_long" (spLong m) []) :
    FnOk P w K mg base L2.CX0 (m + 3) f fd ["pool", "names_here", "nows_here", "signs"] (spLong (m + 1)) := by
  refine F.ok sc__law_long (fun vs H Q E h => ?_) (fun cdv A outer s H vs Q E hr h => ?_)
  · obtain ⟨a, ln, ws, s, n, rfl, _⟩ := h
    rfl
  obtain ⟨a, ln, ws, s, n, rfl, hs, hs1, hw, hn, hp, k⟩ := h
  refine ⟨_, (pss_cons (ps_if (pt_cmpR op_eq (pv 3) pe_int (nomark _)) (pss_one (ps_ret (C8.pe_c c__law_leaf hr (by omega) rfl (pa_cons (pv 0) (pa_cons (pv 1) (pa_cons (pv 2) pa_nil)))))) pss_nil) (pss_cons (ps_set (i := 4) sc__law_long.nd rfl (Or.inl rfl) (C8.pe_c c__law_draw hr (by omega) rfl (pa_cons (pv 0) (pa_cons pe_int pa_nil)))) (pss_cons (ps_if (pt_cmpR op_eq (pv 4) pe_int (nomark _)) (pss_one (ps_ret (pe_tup (pa_cons pe_str (pa_cons (C8.pe_c c__law_long hr (by omega) rfl (pa_cons (pv 0) (pa_cons (pv 1) (pa_cons (pv 2) (pa_cons (pe_op op_sub (pv 3) pe_int) pa_nil))))) pa_nil))))) pss_nil) (pss_cons (ps_if (pt_cmpR op_lt (pv 4) pe_int (nomark _)) (pss_one (ps_ret (pe_tup (pa_cons (pe_ix ix_list (pe_lst (pa_cons pe_str (pa_cons pe_str pa_nil))) (pe_op op_sub (pv 4) pe_int) (fun _ _ => rfl)) (pa_cons (C8.pe_c c__law_long hr (by omega) rfl (pa_cons (pv 0) (pa_cons (pv 1) (pa_cons (pv 2) (pa_cons (pe_op op_sub (pv 3) pe_int) pa_nil))))) (pa_cons (pe_op op_add pe_int (C8.pe_c c__law_draw hr (by omega) rfl (pa_cons (pv 0) (pa_cons pe_int pa_nil)))) pa_nil)))))) pss_nil) (pss_cons (ps_set (i := 5) sc__law_long.nd rfl (Or.inl rfl) (pe_ix ix_list (pe_lst (pa_cons pe_int (pa_cons (pe_op op_sub (pv 3) pe_int) (pa_cons (C8.pe_c c__law_draw hr (by omega) rfl (pa_cons (pv 0) (pa_cons (pv 3) pa_nil))) (pa_cons (C8.pe_c c__law_draw hr (by omega) rfl (pa_cons (pv 0) (pa_cons (pv 3) pa_nil))) pa_nil))))) (C8.pe_c c__law_draw hr (by omega) rfl (pa_cons (pv 0) (pa_cons pe_int pa_nil))) (fun _ _ => rfl))) (pss_cons (ps_par (i := 6) (j := 7) (by rfl) sc__law_long.nd rfl rfl (by decide) rfl rfl (pa_cons (pe_ix ix_list (pe_lst (pa_cons pe_str (pa_cons pe_str (pa_cons pe_str (pa_cons pe_str (pa_cons pe_str (pa_cons pe_str (pa_cons pe_str pa_nil)))))))) (pe_op op_sub (pv 4) pe_int) (fun _ _ => rfl)) (pa_cons (C8.pe_c c__law_long hr (by omega) rfl (pa_cons (pv 0) (pa_cons (pv 1) (pa_cons (pv 2) (pa_cons (pv 5) pa_nil))))) pa_nil)) (by rfl)) (pss_one (ps_ret (pe_tup (pa_cons (pv 6) (pa_cons (pv 7) (pa_cons (C8.pe_c c__law_long hr (by omega) rfl (pa_cons (pv 0) (pa_cons (pv 1) (pa_cons (pv 2) (pa_cons (pe_op op_sub (pe_op op_sub (pv 3) pe_int) (pv 5)) pa_nil))))) pa_nil)))))))))))), ?_⟩
  refine q_when (et_test (ev_op (ev_var rfl) ev_c (rv_eq rfl))) (fun q H1 e1 => ?_) (fun q H1 e1 => ?_)
  · refine ⟨_, rfl, _, rfl, _, rfl, a, ln, ws, n, rfl, hw.go (Go.of e1), by omega, hp.ex e1, fun v H2 t g2 p2 hv hw2 hz => k _ _ t ((Go.of e1).trans g2) (p2.mono (by omega)) hv hw2 (by omega)⟩
  have hs0 : 0 < s := Nat.pos_of_ne_zero fun e => by subst e; exact of_decide_eq_false q rfl
  have hw1 : NmsAt ln a ws H1 := hw.go (Go.of e1)
  refine ⟨_, rfl, a, 10, n, rfl, by decide, by decide, by omega, hp.ex e1, fun r H2 r0 r1 g2 p2 => ?_⟩
  have gA : Go a H H2 := (Go.of e1).trans g2
  have hw2 := hw1.go g2
  have hm1 : (s : Int) - 1 = ((s - 1 : Nat) : Int) := by omega
  refine q_when (et_test (ev_op (ev_var rfl) ev_c (rv_eq rfl))) (fun q H3 e3 => ?_) (fun q H3 e3 => ?_)
  · refine ⟨_, rfl, _, rfl, _, rfl, _, rfl, _, _, rfl, rfl, a, ln, ws, s - 1, n + 1, by rw [← hm1]; rfl, by omega, by omega, hw2.go (Go.of e3), by omega, p2.ex e3, fun v H4 t g4 p4 hv hwf hz => ?_⟩
    refine ⟨by show 2 ≤ sizeLine; decide, fun p hp5 => ?_⟩
    exact k _ _ (.neg t) (gA.trans ((Go.of e3).trans (g4.trans (Go.of (same_new hp5 _))))) ((p4.ex (same_new hp5 _)).mono (by omega)) ⟨p, v, rfl, upd_same, hv.mono (same_new hp5 _)⟩ hwf (by show sz t + 1 ≤ s; omega)
  have r_ne : ¬ r = 0 := fun e => by subst e; exact of_decide_eq_false q rfl
  refine q_when (et_test (ev_op (ev_var rfl) ev_c rv_I0)) (fun q H4 e4 => ?_) (fun q H4 e4 => ?_)
  · have q' := of_decide_eq_true q
    obtain ⟨g, hg, hgs, hgd⟩ := dvs_at (i := r - 1) (by omega) (by omega)
    have ed : ([Str.ofString "//", Str.ofString "mod"].map V.str) = dvs.map vS := by
      show [V.str (Str.ofString "//"), V.str (Str.ofString "mod")] = [vS [47, 47], vS [109, 111, 100]]
      rw [show Str.ofString "//" = S [47, 47] from by decide +kernel, show Str.ofString "mod" = S [109, 111, 100] from by decide +kernel]
    refine ⟨by show 2 ≤ sizeLine; decide, fun p5 hp5 => ?_⟩
    have x5 : Ex H4 (upd H4 p5 (.lst [.str (Str.ofString "//"), .str (Str.ofString "mod")])) := same_new hp5 _
    refine ⟨_, rfl, _, _, rfl, rfl, p5, _, r - 1, vS g, rfl, rfl, SqL.of upd_same, by rw [← ed] at hg; exact hg, ?_⟩
    have p4' := ((p2.ex e3).ex e4).ex x5
    have hw5 : NmsAt ln a ws (upd H4 p5 (.lst [.str (Str.ofString "//"), .str (Str.ofString "mod")])) := hw2.go ((Go.of e3).trans ((Go.of e4).trans (Go.of x5)))
    refine ⟨_, rfl, _, rfl, _, rfl, _, rfl, _, _, rfl, rfl, a, ln, ws, s - 1, n + 1, by rw [← hm1]; rfl, by omega, by omega, hw5, by omega, p4', fun v H6 t g6 p6 hv hwf hz => ?_⟩
    refine ⟨_, rfl, a, 6, n + 1 + 9 * (s - 1) + 5, rfl, by decide, by decide, by omega, p6, fun d H7 d0 d1 g7 p7 => ?_⟩
    refine ⟨_, _, rfl, rfl, by show 3 ≤ sizeLine; decide, fun p8 hp8 => ?_⟩
    refine k _ _ (.bin g t (.num (1 + d))) (gA.trans ((Go.of (e3.trans (e4.trans x5))).trans (g6.trans (g7.trans (Go.of (same_new hp8 _)))))) ((p7.ex (same_new hp8 _)).mono (by omega))
      ⟨p8, v, _, rfl, upd_same, (hv.go g7 p6).mono (same_new hp8 _), fun _ => ⟨1 + d, rfl, rfl⟩, fun q => absurd hgd q⟩ ⟨hgs, hwf, num_small (by omega), fun _ => decide_eq_true (by omega)⟩ (by show sz t + 0 + 1 ≤ s; omega)
  have q' := of_decide_eq_false q
  have gB : Go a H H4 := gA.trans (Go.of (e3.trans e4))
  have pB : PoolAt a (n + 1) H4 := (p2.ex e3).ex e4
  have hwB : NmsAt ln a ws H4 := hw2.go (Go.of (e3.trans e4))
  -- first = [0, signs - 1, draw(signs), draw(signs)][draw(4)]
  refine ⟨_, rfl, _, _, rfl, rfl, _, rfl, _, rfl, a, s, n + 1, rfl, by omega, by omega, by omega, pB, fun x H5 x0 x1 g5 p5 => ?_⟩
  refine ⟨_, rfl, _, rfl, a, s, n + 2, rfl, by omega, by omega, by omega, p5, fun y H6 y0 y1 g6 p6 => ?_⟩
  refine ⟨by show 4 ≤ sizeLine; decide, fun p7 hp7 => ?_⟩
  have x7 : Ex H6 (upd H6 p7 (.lst ([0, (s : Int) - 1, x, y].map V.int))) := same_new hp7 _
  refine ⟨_, rfl, a, 4, n + 3, rfl, by decide, by decide, by omega, p6.ex x7, fun z H8 z0 z1 g8 p8 => ?_⟩
  obtain ⟨fi, hfm, hfa⟩ := ints_at (xs := [0, (s : Int) - 1, x, y]) z0 (by exact z1)
  have hf0 : 0 ≤ fi ∧ fi ≤ (s : Int) - 1 := by
    simp only [List.mem_cons, List.not_mem_nil, or_false] at hfm
    omega
  have h8 := g8 p7 _ (pool_new p6 hp7) upd_same
  refine ⟨p7, _, z, .int fi, rfl, rfl, SqL.of h8, hfa, ?_⟩
  have gC : Go a H H8 := gB.trans (g5.trans (g6.trans ((Go.of x7).trans g8)))
  have hw8 : NmsAt ln a ws H8 := hw.go gC
  obtain ⟨fn, rfl⟩ := Int.eq_ofNat_of_zero_le hf0.1
  have hfn : fn + 1 ≤ s := by omega
  obtain ⟨g, hg, hgs, hgd⟩ := sgs_at (i := r - 3) (by omega) (by omega)
  have ed : ([Str.ofString "+", Str.ofString "-", Str.ofString "*", Str.ofString "&", Str.ofString "|", Str.ofString "=", Str.ofString "<"].map V.str) = [[43], [45], [42], [38], [124], [61], [60]].map vS := by
    show [V.str (Str.ofString "+"), V.str (Str.ofString "-"), V.str (Str.ofString "*"), V.str (Str.ofString "&"), V.str (Str.ofString "|"), V.str (Str.ofString "="), V.str (Str.ofString "<")] = [vS [43], vS [45], vS [42], vS [38], vS [124], vS [61], vS [60]]
    rw [show Str.ofString "+" = S [43] from by decide +kernel, show Str.ofString "-" = S [45] from by decide +kernel, show Str.ofString "*" = S [42] from by decide +kernel, show Str.ofString "&" = S [38] from by decide +kernel, show Str.ofString "|" = S [124] from by decide +kernel, show Str.ofString "=" = S [61] from by decide +kernel, show Str.ofString "<" = S [60] from by decide +kernel]
  rw [← ed] at hg
  refine ⟨by show 7 ≤ sizeLine; decide, fun p9 hp9 => ?_⟩
  have x9 : Ex H8 (upd H8 p9 (.lst ([Str.ofString "+", Str.ofString "-", Str.ofString "*", Str.ofString "&", Str.ofString "|", Str.ofString "=", Str.ofString "<"].map V.str))) := same_new hp9 _
  refine ⟨_, rfl, _, _, rfl, rfl, p9, _, r - 3, vS g, rfl, rfl, SqL.of upd_same, hg, ?_⟩
  refine ⟨_, rfl, _, rfl, _, rfl, _, rfl, a, ln, ws, fn, n + 4, rfl, by omega, by omega, hw8.go (Go.of x9), by omega, p8.ex x9, fun v1 H10 t1 g10 p10 hv1 hwf1 hz1 => ?_⟩
  refine ⟨_, _, rfl, ?_⟩
  have gD : Go a H H10 := gC.trans ((Go.of x9).trans g10)
  have hm2 : (s : Int) - 1 - (fn : Int) = ((s - 1 - fn : Nat) : Int) := by omega
  refine ⟨_, rfl, _, rfl, _, rfl, _, rfl, _, rfl, _, rfl, _, _, rfl, rfl, _, rfl, _, _, rfl, rfl, a, ln, ws, s - 1 - fn, n + 4 + 9 * fn + 5, by rw [← hm2]; rfl, by omega, by omega, hw.go gD, by omega, p10, fun v2 H11 t2 g11 p11 hv2 hwf2 hz2 => ?_⟩
  refine ⟨by show 3 ≤ sizeLine; decide, fun p12 hp12 => ?_⟩
  refine k _ _ (.bin g t1 t2) (gD.trans (g11.trans (Go.of (same_new hp12 _)))) ((p11.ex (same_new hp12 _)).mono (by omega))
    ⟨p12, v1, v2, rfl, upd_same, (hv1.go g11 p10).mono (same_new hp12 _), fun q => absurd q hgd, fun _ => hv2.mono (same_new hp12 _)⟩ ⟨hgs, hwf1, hwf2, fun q => absurd q hgd⟩ (by show sz t1 + sz t2 + 1 ≤ s; omega)
end
end E60
namespace E60
open PySem L2 Evl SX
abbrev s__law_part : Stmt := topS 40
theorem sc__law_part : FnScope ["plan", "style"] ["plan", "style"] (defScope s__law_part) := ⟨rfl, rfl, rfl, by decide +kernel, rfl, by decide +kernel, by decide +kernel⟩
abbrev s__law_value : Stmt := topS 41
theorem sc__law_value : FnScope ["plan", "style", "first", "two"] ["plan", "style"] (defScope s__law_value) := ⟨rfl, rfl, rfl, by decide +kernel, rfl, by decide +kernel, by decide +kernel⟩

def tag : Vl → Cs
  | .nm _ => [99]
  | .nw _ => [119]
  | .ps => [103]
  | .num _ => [110]
  | .neg _ => [126]
  | .bin g _ _ => g
theorem sC : Str.ofString "c" = S [99] := by decide +kernel
theorem sW : Str.ofString "w" = S [119] := by decide +kernel
theorem sG : Str.ofString "g" = S [103] := by decide +kernel
theorem sN : Str.ofString "n" = S [110] := by decide +kernel
theorem sT : Str.ofString "~" = S [126] := by decide +kernel
theorem plan_tag {H : Hp} {t : Vl} {v : V} (h : PlanAt H t v) : ∃ p xs, v = .ref p ∧ H p = some (.tup (vS (tag t) :: xs)) := by
  cases t with
  | nm s => obtain ⟨p, h1, h2⟩ := h; rw [sC] at h2; exact ⟨p, _, h1, h2⟩
  | nw s => obtain ⟨p, h1, h2⟩ := h; rw [sW] at h2; exact ⟨p, _, h1, h2⟩
  | ps => obtain ⟨p, h1, h2⟩ := h; rw [sG] at h2; exact ⟨p, _, h1, h2⟩
  | num n => obtain ⟨p, h1, h2⟩ := h; rw [sN] at h2; exact ⟨p, _, h1, h2⟩
  | neg u => obtain ⟨p, x, h1, h2, _⟩ := h; rw [sT] at h2; exact ⟨p, _, h1, h2⟩
  | bin g x y => obtain ⟨p, _, _, h1, h2, _⟩ := h; exact ⟨p, _, h1, h2⟩
theorem sgs_tags {g : Cs} (h : g ∈ sgs) : g ∉ [[110], [99]] ∧ g ∉ [[119], [103]] ∧ g ≠ [126] ∧ g ≠ [110] := by
  have : ∀ g ∈ sgs, g ∉ [[110], [99]] ∧ g ∉ [[119], [103]] ∧ g ≠ [126] ∧ g ≠ [110] := by decide
  exact this g h
section
variable {P : Program} {w : World} {K : PySem.W.Frag} {mg : Str → Option Value} {base : Heap} {C f : Addr} {fd : FuncData}
/-- by at most m calls, one in another -/
def spLV (C : Addr) (m : Nat) : Sp := fun vs H Q _ => ∃ (t : Vl) (v : V), vs = [v, .int 0] ∧ PlanAt H t v ∧ Wf t ∧ ht t < m ∧ ∀ v' H', Ex H H' → ValAt C H' t v' → Q v' H'
theorem ok_law_part {m : Nat} (F : Fun K "_law_part" "_law_part" s__law_part f fd) (T : Txt K mg C) (c__law_value : Cal P w K mg base (2 * m + 6) "_law_value" (spLV C m) []) : FnOk P w K mg base L2.CX0 (2 * m + 7) f fd ["plan", "style"] (spLV C m) := by
  refine F.ok sc__law_part (fun vs H Q E h => ?_) (fun cdv A outer s H vs Q E hr h => ?_)
  · obtain ⟨t, v, rfl, _⟩ := h
    rfl
  obtain ⟨t, v, rfl, hv, hw, hh, k⟩ := h
  obtain ⟨p, xs, rfl, hp⟩ := plan_tag hv
  refine ⟨_, (pss_one (ps_ret (pe_ifExp (PW.pt (pw_and (pt_cmpR op_eq (pe_ix ix_tup (pv 0) pe_int (fun _ _ => rfl)) pe_str (nomark _)) (pw_and1 (pt_cmpR op_eq (pv 1) pe_int (nomark _))))) (pe_ix ix_tup (pv 0) pe_int (fun _ _ => rfl)) (C8.pe_c c__law_value hr (by omega) rfl (pa_cons (pv 0) (pa_cons (pv 1) pa_nil)))))), ?_⟩
  have h0 : Ev (tOp (rIxT K) (tVar 0) (tC (.int 0))) [some (.ref p), some (.int 0)] H (vS (tag t)) := ev_op (ev_var rfl) ev_c (rv_ixT (i := ((0 : Nat) : Int)) (st_of hp) (atI_nat rfl))
  refine et_is (et_and (a := decide (tag t = [110])) (b := false) (et_test (ev_eqS (b := [110]) h0 sN)) (fun _ => et_test (ev_is (ev_op (ev_var rfl) ev_c (rv_eq rfl)) rfl))) (Bool.and_false _) H (Ex.refl _) _ fun H1 e1 => ?_
  exact iteF ⟨_, rfl, _, rfl, t, _, rfl, hv.mono e1, hw, hh, fun v' H2 e2 hv' => k _ _ (e1.trans e2) hv'⟩
theorem ev_in {σ : L2.St} {H : Hp} {te : TE} {ta : TA} {x : Cs} {ys : List Cs} (h : Ev te σ H (vS x)) (ha : EvA ta σ H (ys.map vS)) (hl : ys.length ≤ 1000) : EvT (tTest (tOp (rIn K false) te (tTup ta))) σ H (decide (x ∈ ys)) :=
  et_test (ev_is (ev_inU h (eu_tup ha (by rw [List.length_map]; omega)) rfl (flat_S ys)) (by rw [inV_S]))
theorem ok_law_value {m : Nat} (F : Fun K "_law_value" "_law_value" s__law_value f fd) (T : Txt K mg C) (c__law_value : Cal P w K mg base (2 * m + 6) "_law_value" (spLV C m) []) (c__law_part : Cal P w K mg base (2 * m + 7) "_law_part" (spLV C m) [])
    (c_named : Cal P w K mg base 3 "named" (spNamed C) []) (c_now : Cal P w K mg base 3 "now" (spNow C) []) (c_passed : Cal P w K mg base 3 "passed" (spPassed C) []) (c_number : Cal P w K mg base 3 "number" (spNumber C) [])
    (x_add : OwnOp P w K mg base 5 C .Add (spBin C [43])) (x_sub : OwnOp P w K mg base 5 C .Sub (spBin C [45])) (x_mul : OwnOp P w K mg base 5 C .Mult (spBin C [42])) (x_and : OwnOp P w K mg base 5 C .BitAnd (spBin C [38])) (x_or : OwnOp P w K mg base 5 C .BitOr (spBin C [124]))
    (x_floordiv : OwnOpI P w K mg base 5 C .FloorDiv (spDiv C [47, 47])) (x_invert : OwnUn P w K mg base 5 C (spNeg C)) (x_rest : C8.Met P w K mg base 5 C "rest" (spDiv C [109, 111, 100]) []) (x_same : C8.Met P w K mg base 5 C "same" (spBin C [61]) []) (x_less : C8.Met P w K mg base 5 C "less" (spBin C [60]) []) :
    FnOk P w K mg base L2.CX0 (2 * m + 8) f fd ["plan", "style"] (spLV C (m + 1)) := by
  refine F.ok sc__law_value (fun vs H Q E h => ?_) (fun cdv A outer s H vs Q E hr h => ?_)
  · obtain ⟨t, v, rfl, _⟩ := h
    rfl
  obtain ⟨t, v, rfl, hv, hw, hh, k⟩ := h
  obtain ⟨p, xs, rfl, hp⟩ := plan_tag hv
  refine ⟨_, (pss_cons (ps_if (pt_cmpR op_in_seq (pe_ix ix_tup (pv 0) pe_int (fun _ _ => rfl)) (pe_tup (pa_cons pe_str (pa_cons pe_str pa_nil))) (by rfl)) (pss_one (ps_ret (pe_ifExp (pt_cmpR op_eq (pe_ix ix_tup (pv 0) pe_int (fun _ _ => rfl)) pe_str (nomark _)) (C8.pe_c c_number hr (by omega) rfl (pa_cons (pe_ix ix_tup (pv 0) pe_int (fun _ _ => rfl)) pa_nil)) (C8.pe_c c_named hr (by omega) rfl (pa_cons (pe_ix ix_tup (pv 0) pe_int (fun _ _ => rfl)) pa_nil))))) pss_nil) (pss_cons (ps_if (pt_cmpR op_in_seq (pe_ix ix_tup (pv 0) pe_int (fun _ _ => rfl)) (pe_tup (pa_cons pe_str (pa_cons pe_str pa_nil))) (by rfl)) (pss_one (ps_ret (pe_ifExp (pt_cmpR op_eq (pe_ix ix_tup (pv 0) pe_int (fun _ _ => rfl)) pe_str (nomark _)) (C8.pe_c c_now hr (by omega) rfl (pa_cons (pe_ix ix_tup (pv 0) pe_int (fun _ _ => rfl)) pa_nil)) (pe_c0 c_passed hr (by omega) rfl)))) pss_nil) (pss_cons (ps_set (i := 2) sc__law_value.nd rfl (Or.inl rfl) (C8.pe_c c__law_value hr (by omega) rfl (pa_cons (pe_ix ix_tup (pv 0) pe_int (fun _ _ => rfl)) (pa_cons (pv 1) pa_nil)))) (pss_cons (ps_if (pt_cmpR op_eq (pe_ix ix_tup (pv 0) pe_int (fun _ _ => rfl)) pe_str (nomark _)) (pss_one (ps_ret (pe_un (un_own x_invert hr (by omega)) (pv 2)))) pss_nil) (pss_cons (ps_if (pt_cmpR op_in_seq (pe_ix ix_tup (pv 0) pe_int (fun _ _ => rfl)) (pe_tup (pa_cons pe_str (pa_cons pe_str pa_nil))) (by rfl)) (pss_one (ps_ret (pe_ifExp (pt_cmpR op_eq (pe_ix ix_tup (pv 0) pe_int (fun _ _ => rfl)) pe_str (nomark _)) (pe_op (op_ownI x_floordiv hr (by omega)) (pv 2) (pe_ix ix_tup (pv 0) pe_int (fun _ _ => rfl))) (C8.pe_mt x_rest hr (by omega) (pv 2) (pa_cons (pe_ix ix_tup (pv 0) pe_int (fun _ _ => rfl)) pa_nil))))) pss_nil) (pss_cons (ps_set (i := 3) sc__law_value.nd rfl (Or.inl rfl) (C8.pe_c c__law_part hr (by omega) rfl (pa_cons (pe_ix ix_tup (pv 0) pe_int (fun _ _ => rfl)) (pa_cons (pv 1) pa_nil)))) (pss_cons (ps_if (pt_cmpR op_in_seq (pe_ix ix_tup (pv 0) pe_int (fun _ _ => rfl)) (pe_tup (pa_cons pe_str (pa_cons pe_str pa_nil))) (by rfl)) (pss_one (ps_ret (pe_ifExp (pt_cmpR op_eq (pe_ix ix_tup (pv 0) pe_int (fun _ _ => rfl)) pe_str (nomark _)) (C8.pe_mt x_same hr (by omega) (pv 2) (pa_cons (pv 3) pa_nil)) (C8.pe_mt x_less hr (by omega) (pv 2) (pa_cons (pv 3) pa_nil))))) pss_nil) (Evl.pss_cut (ps_if (pt_cmpR op_ne (pe_ix ix_tup (pe_ix ix_tup (pv 0) pe_int (fun _ _ => rfl)) pe_int (fun _ _ => rfl)) pe_str (nomark _)) (pss_one (ps_set (i := 2) sc__law_value.nd rfl (Or.inl rfl) (C8.pe_c c__law_part hr (by omega) rfl (pa_cons (pe_ix ix_tup (pv 0) pe_int (fun _ _ => rfl)) (pa_cons (pv 1) pa_nil))))) pss_nil) (pss_cons (ps_if (pt_cmpR op_in_seq (pe_ix ix_tup (pv 0) pe_int (fun _ _ => rfl)) (pe_tup (pa_cons pe_str (pa_cons pe_str (pa_cons pe_str pa_nil)))) (by rfl)) (pss_one (ps_ret (pe_ifExp (pt_cmpR op_eq (pe_ix ix_tup (pv 0) pe_int (fun _ _ => rfl)) pe_str (nomark _)) (pe_op (op_own x_add hr (by omega)) (pv 2) (pv 3)) (pe_ifExp (pt_cmpR op_eq (pe_ix ix_tup (pv 0) pe_int (fun _ _ => rfl)) pe_str (nomark _)) (pe_op (op_own x_sub hr (by omega)) (pv 2) (pv 3)) (pe_op (op_own x_mul hr (by omega)) (pv 2) (pv 3)))))) pss_nil) (pss_one (ps_ret (pe_ifExp (pt_cmpR op_eq (pe_ix ix_tup (pv 0) pe_int (fun _ _ => rfl)) pe_str (nomark _)) (pe_op (op_own x_and hr (by omega)) (pv 2) (pv 3)) (pe_op (op_own x_or hr (by omega)) (pv 2) (pv 3)))))))))))))), ?_⟩
  have h0 : ∀ {H' : Hp} {a b : Option V}, Ex H H' → Ev (tOp (rIxT K) (tVar 0) (tC (.int 0))) [some (.ref p), some (.int 0), a, b] H' (vS (tag t)) := fun e => ev_op (ev_var rfl) ev_c (rv_ixT (i := ((0 : Nat) : Int)) (st_of (e _ _ hp)) (atI_nat rfl))
  refine q_when (ev_in (ys := [[110], [99]]) (h0 (Ex.refl H)) (ea_cons (ev_cS sN) (ea_cons (ev_cS sC) ea_nil)) (by decide)) (fun q H1 e1 => ?_) (fun q H1 e1 => ?_)
  · refine (et_test (ev_eqS (b := [110]) (h0 e1) sN)) H1 (Ex.refl _) _ fun H2 e2 => ?_
    have q' := of_decide_eq_true q
    cases t with
    | num n =>
      obtain ⟨p', e, h2⟩ := hv
      cases e
      refine iteT ⟨_, rfl, p, _, ((1 : Nat) : Int), .int n, rfl, rfl, st_of (e2 _ _ (e1 _ _ h2)), atI_nat rfl, n, rfl, fun v' H3 e3 hv' => k _ _ (e1.trans (e2.trans e3)) hv'⟩
    | nm s =>
      obtain ⟨p', e, h2⟩ := hv
      cases e
      refine iteF ⟨_, rfl, p, _, ((1 : Nat) : Int), vS s, rfl, rfl, st_of (e2 _ _ (e1 _ _ h2)), atI_nat rfl, s, rfl, hw, fun v' H3 e3 hv' => k _ _ (e1.trans (e2.trans e3)) hv'⟩
    | nw s => exact absurd q' (show ¬ ([119] : Cs) ∈ [[110], [99]] by decide)
    | ps => exact absurd q' (by decide)
    | neg u => exact absurd q' (show ¬ ([126] : Cs) ∈ [[110], [99]] by decide)
    | bin g x y => exact absurd q' (sgs_tags hw.1).1
  have q1 := of_decide_eq_false q
  refine q_when (ev_in (ys := [[119], [103]]) (h0 e1) (ea_cons (ev_cS sW) (ea_cons (ev_cS sG) ea_nil)) (by decide)) (fun q H2 e2 => ?_) (fun q H2 e2 => ?_)
  · refine (et_test (ev_eqS (b := [119]) (h0 (e1.trans e2)) sW)) H2 (Ex.refl _) _ fun H3 e3 => ?_
    have q' := of_decide_eq_true q
    cases t with
    | nw s =>
      obtain ⟨p', e, h2⟩ := hv
      cases e
      refine iteT ⟨_, rfl, p, _, ((1 : Nat) : Int), vS s, rfl, rfl, st_of (e3 _ _ (e2 _ _ (e1 _ _ h2))), atI_nat rfl, s, rfl, hw, fun v' H4 e4 hv' => k _ _ (e1.trans (e2.trans (e3.trans e4))) hv'⟩
    | ps => exact iteF ⟨rfl, fun v' H4 e4 hv' => k _ _ (e1.trans (e2.trans (e3.trans e4))) hv'⟩
    | num n => exact absurd q' (show ¬ ([110] : Cs) ∈ [[119], [103]] by decide)
    | nm s => exact absurd q' (show ¬ ([99] : Cs) ∈ [[119], [103]] by decide)
    | neg u => exact absurd q' (show ¬ ([126] : Cs) ∈ [[119], [103]] by decide)
    | bin g x y => exact absurd q' (sgs_tags hw.1).2.1
  have q2 := of_decide_eq_false q
  have ex2 := e1.trans e2
  cases t with
  | num n => exact absurd (show [110] ∈ [[110], [99]] by decide) q1
  | nm s => exact absurd (show [99] ∈ [[110], [99]] by decide) q1
  | nw s => exact absurd (show [119] ∈ [[119], [103]] by decide) q2
  | ps => exact absurd (show [103] ∈ [[119], [103]] by decide) q2
  | neg u =>
    obtain ⟨p', x, e, h2, hx⟩ := hv
    cases e
    have hh' : ht u + 1 < m + 1 := hh
    refine ⟨_, rfl, p, _, ((1 : Nat) : Int), x, rfl, rfl, st_of (ex2 _ _ h2), atI_nat rfl, _, rfl, u, x, rfl, hx.mono ex2, hw, by omega, fun v1 H3 e3 hv1 => ?_⟩
    refine q_when (et_test (ev_eqS (b := [126]) (h0 (ex2.trans e3)) sT)) (fun q H4 e4 => ?_) (fun q => absurd rfl (of_decide_eq_false q))
    obtain ⟨pp, g', a', b', rfl, dx, hpp⟩ := ValAt.vo hv1
    exact ⟨_, rfl, pp, dx, _, rfl, e4 _ _ hpp, u, _, rfl, hv1.mono e4, fun v' H5 e5 hv' => k _ _ (ex2.trans (e3.trans (e4.trans e5))) hv'⟩
  | bin g x y =>
    obtain ⟨p', vx, vy, e, h2, hx, hyd, hy⟩ := hv
    cases e
    obtain ⟨hgs, hwx, hwy, hwd⟩ := hw
    have hh' : max (ht x) (ht y) + 1 < m + 1 := hh
    refine ⟨_, rfl, p, _, ((1 : Nat) : Int), vx, rfl, rfl, st_of (ex2 _ _ h2), atI_nat rfl, _, rfl, x, vx, rfl, hx.mono ex2, hwx, by omega, fun v1 H3 e3 hv1 => ?_⟩
    have ex3 := ex2.trans e3
    refine q_when (et_test (ev_eqS (b := [126]) (h0 ex3) sT)) (fun q => absurd (of_decide_eq_true q) (sgs_tags hgs).2.2.1) (fun q H4 e4 => ?_)
    have ex4 := ex3.trans e4
    refine q_when (ev_in (ys := dvs) (h0 ex4) (ea_cons (ev_cS (by decide +kernel)) (ea_cons (ev_cS (by decide +kernel)) ea_nil)) (by decide)) (fun q H5 e5 => ?_) (fun q H5 e5 => ?_)
    · have hgd := of_decide_eq_true q
      obtain ⟨d, rfl, rfl⟩ := hyd hgd
      have hd1 : 1 ≤ d := of_decide_eq_true (hwd hgd)
      have ex5 := ex4.trans e5
      obtain ⟨pp, g', a', b', rfl, dx, hpp⟩ := ValAt.vo hv1
      refine (et_test (ev_eqS (b := [47, 47]) (h0 ex5) (by decide +kernel))) H5 (Ex.refl _) _ fun H6 e6 => ?_
      have hv6 := hv1.mono (e4.trans (e5.trans e6))
      have ex6 := ex5.trans e6
      by_cases hg47 : g = [47, 47]
      · subst hg47
        refine iteT ⟨_, rfl, _, rfl, p, _, ((2 : Nat) : Int), .int d, rfl, rfl, st_of (ex6 _ _ h2), atI_nat rfl, pp, dx, _, d, rfl, rfl, e6 _ _ (e5 _ _ (e4 _ _ hpp)), x, d, _, rfl, hv6, hd1, fun v' H7 e7 hv' => ⟨?_, k _ _ (ex6.trans e7) hv'⟩⟩
        obtain ⟨p7, _, _, _, e, _⟩ := ValAt.vo hv'; exact ⟨p7, e⟩
      · rw [show decide (tag (Vl.bin g x (.num d)) = [47, 47]) = false from decide_eq_false hg47]
        have hgm : g = [109, 111, 100] := by
          rcases List.mem_cons.mp hgd with h | h
          · exact absurd h hg47
          · exact List.mem_singleton.mp h
        subst hgm
        refine iteF ⟨_, rfl, pp, dx, _, rfl, e6 _ _ (e5 _ _ (e4 _ _ hpp)), fl_no (by decide +kernel) (by decide +kernel) (by decide +kernel), _, rfl, p, _, ((2 : Nat) : Int), .int d, rfl, rfl, st_of (ex6 _ _ h2), atI_nat rfl, x, d, _, rfl, hv6, hd1, fun v' H7 e7 hv' => k _ _ (ex6.trans e7) hv'⟩
    have hgd := of_decide_eq_false q
    have hy' := hy hgd
    have ex5 := ex4.trans e5
    refine ⟨_, rfl, p, _, ((2 : Nat) : Int), vy, rfl, rfl, st_of (ex5 _ _ h2), atI_nat rfl, _, rfl, y, vy, rfl, hy'.mono ex5, hwy, by omega, fun v2 H6 e6 hv2 => ?_⟩
    have ex6 := ex5.trans e6
    have hv1' := hv1.mono (e4.trans (e5.trans e6))
    obtain ⟨p1, g1, a1, b1, rfl, dx1, hp1⟩ := ValAt.vo hv1'
    refine q_when (ev_in (ys := [[61], [60]]) (h0 ex6) (ea_cons (ev_cS (by decide +kernel)) (ea_cons (ev_cS (by decide +kernel)) ea_nil)) (by decide)) (fun q H7 e7 => ?_) (fun q H7 e7 => ?_)
    · have hge := of_decide_eq_true q
      have ex7 := ex6.trans e7
      refine (et_test (ev_eqS (b := [61]) (h0 ex7) (by decide +kernel))) H7 (Ex.refl _) _ fun H8 e8 => ?_
      have e78 := e7.trans e8
      by_cases hg61 : g = [61]
      · subst hg61
        exact iteT ⟨_, rfl, p1, dx1, _, rfl, e78 _ _ hp1, fl_no (by decide +kernel) (by decide +kernel) (by decide +kernel), _, rfl, x, y, _, _, rfl, hv1'.mono e78, hv2.mono e78, fun v' H9 e9 hv' => k _ _ (ex6.trans (e78.trans e9)) hv'⟩
      · rw [show decide (tag (Vl.bin g x y) = [61]) = false from decide_eq_false hg61]
        have hg60 : g = [60] := by
          rcases List.mem_cons.mp hge with h | h
          · exact absurd h hg61
          · exact List.mem_singleton.mp h
        subst hg60
        exact iteF ⟨_, rfl, p1, dx1, _, rfl, e78 _ _ hp1, fl_no (by decide +kernel) (by decide +kernel) (by decide +kernel), _, rfl, x, y, _, _, rfl, hv1'.mono e78, hv2.mono e78, fun v' H9 e9 hv' => k _ _ (ex6.trans (e78.trans e9)) hv'⟩
    have hge := of_decide_eq_false q
    have ex7 := ex6.trans e7
    obtain ⟨py, ys, rfl, hpy⟩ := plan_tag hy'
    refine q_cut (M := fun σ' H' => ∃ v1', σ' = [some (.ref p), some (.int 0), some v1', some v2] ∧ Ex H7 H' ∧ ValAt C H' x v1') ?_ ?_
    · refine s_when (et_test (ev_neS (b := [110]) (ev_op (ev_op (ev_var rfl) ev_c (rv_ixT (i := ((2 : Nat) : Int)) (st_of (ex7 _ _ h2)) (atI_nat rfl))) ev_c (rv_ixT (i := ((0 : Nat) : Int)) (st_of (ex7 _ _ hpy)) (atI_nat rfl))) sN)) (fun q H8 e8 => ?_) (fun q H8 e8 => ?_)
      · have ex8 := ex7.trans e8
        exact ⟨_, rfl, p, _, ((1 : Nat) : Int), vx, rfl, rfl, st_of (ex8 _ _ h2), atI_nat rfl, _, rfl, x, vx, rfl, hx.mono ex8, hwx, by omega, fun v1' H9 e9 hv1'' => ⟨v1', rfl, e8.trans e9, hv1''⟩⟩
      · exact ⟨_, rfl, e8, hv1'.mono (e7.trans e8)⟩
    · rintro σ' H8 ⟨v1'', rfl, e8, hx8⟩
      have hy8 := hv2.mono (e7.trans e8)
      have ex8 := ex7.trans e8
      obtain ⟨ad1, g1', a1', b1', rfl, dxx, hqx⟩ := ValAt.vo hx8
      obtain ⟨ad2, g2', a2', b2', rfl, dxy, hqy⟩ := ValAt.vo hy8
      have rf : ∀ {v' : V} {H' : Hp} {t : Vl}, ValAt C H' t v' → ∃ p, v' = .ref p := fun h => by obtain ⟨p7, _, _, _, e, _⟩ := ValAt.vo h; exact ⟨p7, e⟩
      refine q_when (ev_in (ys := [[43], [45], [42]]) (h0 ex8) (ea_cons (ev_cS (by decide +kernel)) (ea_cons (ev_cS (by decide +kernel)) (ea_cons (ev_cS (by decide +kernel)) ea_nil))) (by decide)) (fun q H9 e9 => ?_) (fun q H9 e9 => ?_)
      · have hgo := of_decide_eq_true q
        have ex9 := ex8.trans e9
        refine (et_test (ev_eqS (b := [43]) (h0 ex9) (by decide +kernel))) H9 (Ex.refl _) _ fun H10 e10 => ?_
        have e910 := e9.trans e10
        by_cases hg43 : g = [43]
        · subst hg43
          exact iteT ⟨_, rfl, _, rfl, ad1, ad2, dxx, dxy, _, _, rfl, rfl, e910 _ _ hqx, e910 _ _ hqy, x, y, _, _, rfl, hx8.mono e910, hy8.mono e910, fun v' H11 e11 hv' => ⟨rf hv', k _ _ (ex8.trans (e910.trans e11)) hv'⟩⟩
        · rw [show decide (tag (Vl.bin g x y) = [43]) = false from decide_eq_false hg43]
          refine iteF ((et_test (ev_eqS (b := [45]) (h0 (ex9.trans e10)) (by decide +kernel))) H10 (Ex.refl _) _ fun H11 e11 => ?_)
          have e911 := e910.trans e11
          by_cases hg45 : g = [45]
          · subst hg45
            exact iteT ⟨_, rfl, _, rfl, ad1, ad2, dxx, dxy, _, _, rfl, rfl, e911 _ _ hqx, e911 _ _ hqy, x, y, _, _, rfl, hx8.mono e911, hy8.mono e911, fun v' H12 e12 hv' => ⟨rf hv', k _ _ (ex8.trans (e911.trans e12)) hv'⟩⟩
          · rw [show decide (tag (Vl.bin g x y) = [45]) = false from decide_eq_false hg45]
            have hg42 : g = [42] := by
              rcases List.mem_cons.mp hgo with h | h
              · exact absurd h hg43
              · rcases List.mem_cons.mp h with h | h
                · exact absurd h hg45
                · exact List.mem_singleton.mp h
            subst hg42
            exact iteF ⟨_, rfl, _, rfl, ad1, ad2, dxx, dxy, _, _, rfl, rfl, e911 _ _ hqx, e911 _ _ hqy, x, y, _, _, rfl, hx8.mono e911, hy8.mono e911, fun v' H12 e12 hv' => ⟨rf hv', k _ _ (ex8.trans (e911.trans e12)) hv'⟩⟩
      · have hgo := of_decide_eq_false q
        have ex9 := ex8.trans e9
        refine (et_test (ev_eqS (b := [38]) (h0 ex9) (by decide +kernel))) H9 (Ex.refl _) _ fun H10 e10 => ?_
        have e910 := e9.trans e10
        by_cases hg38 : g = [38]
        · subst hg38
          exact iteT ⟨_, rfl, _, rfl, ad1, ad2, dxx, dxy, _, _, rfl, rfl, e910 _ _ hqx, e910 _ _ hqy, x, y, _, _, rfl, hx8.mono e910, hy8.mono e910, fun v' H11 e11 hv' => ⟨rf hv', k _ _ (ex8.trans (e910.trans e11)) hv'⟩⟩
        · rw [show decide (tag (Vl.bin g x y) = [38]) = false from decide_eq_false hg38]
          have hg124 : g = [124] := by
            have : ∀ g ∈ sgs, g ∉ dvs → g ∉ [[61], [60]] → g ∉ [[43], [45], [42]] → g ≠ [38] → g = [124] := by decide
            exact this g hgs hgd hge hgo hg38
          subst hg124
          exact iteF ⟨_, rfl, _, rfl, ad1, ad2, dxx, dxy, _, _, rfl, rfl, e910 _ _ hqx, e910 _ _ hqy, x, y, _, _, rfl, hx8.mono e910, hy8.mono e910, fun v' H11 e11 hv' => ⟨rf hv', k _ _ (ex8.trans (e910.trans e11)) hv'⟩⟩
end
end E60
namespace E60
open PySem L2 Evl SX
abbrev s__law_odd : Stmt := topS 48
theorem sc__law_odd : FnScope ["pool", "wording", "menu", "many", "size"] ["pool", "wording"] (defScope s__law_odd) := ⟨rfl, rfl, rfl, by decide +kernel, rfl, by decide +kernel, by decide +kernel⟩

/-- a text of at most n signs -/
def GS (n : Nat) (v : V) : Prop := ∃ l : Cs, v = vS l ∧ l.length ≤ n ∧ Cok l
theorem GS.mono {n m : Nat} {v : V} (h : GS n v) (e : n ≤ m) : GS m v := by
  obtain ⟨l, h1, h2, h3⟩ := h
  exact ⟨l, h1, Nat.le_trans h2 e, h3⟩
def EvQ (te : TE) (σ : L2.St) (H : Hp) (Pv : V → Prop) : Prop := ∀ H1, Ex H H1 → ∀ Q : VK, (∀ v H2, Ex H1 H2 → Pv v → Q v H2) → te σ H1 Q
def EvAQ (ta : TA) (σ : L2.St) (H : Hp) (k : Nat) : Prop := ∀ H1, Ex H H1 → ∀ Q : List V → Hp → Prop, (∀ vs H2, Ex H1 H2 → vs.length = k → (∀ v ∈ vs, GS 2500 v) → Q vs H2) → ta σ H1 Q
def okS (x : Str) (n : Nat) : Bool := decide (x.length ≤ n) && x.cps.toList.all (· < 1114112)
theorem gs_of {x : Str} {n : Nat} (h : okS x n = true) : GS n (.str x) := by
  unfold okS at h
  rw [Bool.and_eq_true, decide_eq_true_eq, List.all_eq_true] at h
  refine ⟨x.cps.toList, ?_, ?_, fun c hc => of_decide_eq_true (h.2 c hc)⟩
  · show V.str x = V.str (S x.cps.toList)
    rw [S_tl]
  · have e : x.length = x.cps.toList.length := by simp [Str.length]
    omega
section
variable {σ : L2.St} {H : Hp} {te ta tb : TE} {tr : TA}
theorem gq_c {n : Nat} {x : Str} (h : okS x n = true) : EvQ (tC (.str x)) σ H (GS n) := fun H1 _ Q q => q _ H1 (Ex.refl _) (gs_of h)
theorem gq_var {n i : Nat} {v : V} (h : σ[i]? = some (some v)) (hg : GS n v) : EvQ (tVar i) σ H (GS n) := fun H1 _ Q q => ⟨v, h, q _ H1 (Ex.refl _) hg⟩
theorem cok_app {a b : Cs} (ha : Cok a) (hb : Cok b) : Cok (a ++ b) := fun c hc => by
  rcases List.mem_append.mp hc with h | h
  · exact ha c h
  · exact hb c h
theorem gq_cat {n m : Nat} (h1 : EvQ ta σ H (GS n)) (h2 : EvQ tb σ H (GS m)) (hz : n + m ≤ 100000) : EvQ (tOp (fun x y H Q => ∃ i j, x = .str i ∧ y = .str j ∧ i.length + j.length ≤ sizeLine ∧ Q (.str (i ++ j)) H) ta tb) σ H (GS (n + m)) := fun H1 e Q q =>
  h1 H1 e _ fun v H2 e2 ⟨a, hv, hl, hc⟩ => h2 H2 (e.trans e2) _ fun v' H3 e3 ⟨b, hv', hl', hc'⟩ => by
    subst hv hv'
    refine ⟨_, _, rfl, rfl, by rw [S_len, S_len]; exact sz_of (by omega), ?_⟩
    rw [S_cat]
    exact q _ H3 (e2.trans e3) ⟨_, rfl, by rw [List.length_append]; omega, cok_app hc hc'⟩
theorem gq_mul {n : Nat} {k : Int} (h1 : EvQ ta σ H (GS n)) (h2 : Ev tb σ H (.int k)) (hk : 0 < k) (hk2 : k ≤ 2000) (hn : n ≤ 100) : EvQ (tOp (fun x y H Q => ∃ (a : Str) (n : Int), x = .str a ∧ y = .int n ∧ 0 < n ∧ n ≤ 2000 ∧ a.length ≤ 100 ∧ ∀ b : Str, b.length ≤ a.length * n.toNat → (∀ c ∈ b.cps.toList, c ∈ a.cps.toList) → Q (.str b) H) ta tb) σ H (GS (n * k.toNat)) := fun H1 e Q q =>
  h1 H1 e _ fun v H2 e2 ⟨a, hv, hl, hc⟩ => h2 H2 (e.trans e2) _ fun H3 e3 => by
    subst hv
    refine ⟨_, _, rfl, rfl, hk, hk2, by rw [S_len]; omega, fun b hb hm => ?_⟩
    rw [S_len] at hb
    have e0 : b = S b.cps.toList := (S_tl b).symm
    rw [e0]
    refine q _ H3 (e2.trans e3) ⟨_, rfl, ?_, fun c hc' => hc c (hm c hc')⟩
    have e : b.length = b.cps.toList.length := by simp [Str.length]
    rw [← e]
    exact Nat.le_trans hb (Nat.mul_le_mul_right _ hl)
theorem gqa_nil : EvAQ tNil σ H 0 := fun H1 _ Q q => q [] H1 (Ex.refl _) rfl (fun v h => by cases h)
theorem gqa_cons {n k : Nat} (h : EvQ te σ H (GS n)) (hn : n ≤ 2500) (hr : EvAQ tr σ H k) : EvAQ (tCons te tr) σ H (k + 1) := fun H1 e Q q =>
  h H1 e _ fun v H2 e2 hv => hr H2 (e.trans e2) _ fun vs H3 e3 hl hvs => q (v :: vs) H3 (e2.trans e3) (by rw [List.length_cons, hl]) fun u hu => by
    rcases List.mem_cons.mp hu with h | h
    · subst h; exact hv.mono hn
    · exact hvs u h
/-- a list of k good texts at p -/
def MenuAt (p : Addr) (k : Nat) (H : Hp) : Prop := ∃ xs, H p = some (.lst xs) ∧ xs.length = k ∧ ∀ v ∈ xs, GS 2500 v
theorem MenuAt.go {p a : Addr} {k : Nat} {H H' : Hp} (h : MenuAt p k H) (g : Go a H H') (hp : p ≠ a) : MenuAt p k H' := by
  obtain ⟨xs, h1, h2⟩ := h
  exact ⟨xs, g _ _ hp h1, h2⟩
/-- the menu of m texts at p; all that stood in H0 but the pool as it was -/
def OddS (a : Addr) (n : Nat) (H0 : Hp) (p : Addr) (m : Nat) (H : Hp) : Prop := Go a H0 H ∧ PoolAt a n H ∧ p ≠ a ∧ H0 p = none ∧ MenuAt p m H
theorem odd_first {tz : TS} {D : Ends} {a : Addr} {n k : Nat} {H0 : Hp} (g : Go a H0 H) (hp : PoolAt a n H) (h : EvAQ tr σ H k) (hk : k ≤ 1000) (hfr : ∀ p, H p = none → H0 p = none) (q : ∀ p H1, OddS a n H0 p k H1 → tz D (σ.set 2 (some (.ref p))) H1) : tSeq (tAsg (tLst tr) (gName 2)) tz D σ H := by
  refine h H (Ex.refl _) _ fun vs H1 e1 hl hvs => ⟨by rw [hl]; exact sz_of (by omega), fun p hp1 => ?_⟩
  exact q p _ ⟨g.trans ((Go.of e1).trans (Go.of (same_new hp1 _))), (hp.ex e1).ex (same_new hp1 _), pool_new (hp.ex e1) hp1, hfr p (fresh_back e1 hp1), vs, upd_same, hl, hvs⟩
theorem go_free {a p : Addr} {n : Nat} {H0 H : Hp} (g : Go a H0 H) (hp : PoolAt a n H) (h : H p = none) : H0 p = none := by
  cases q : H0 p with
  | none => rfl
  | some o =>
    have := g p o (pool_new hp h) q
    rw [h] at this; cases this
theorem odd_more {tz : TS} {D : Ends} {a p : Addr} {m k n : Nat} {H0 : Hp} (hm : OddS a n H0 p m H) (hσ : σ[2]? = some (some (.ref p))) (h : EvAQ tr σ H k) (hk : m + k ≤ 1000) (q : ∀ p H1, OddS a n H0 p (m + k) H1 → tz D (σ.set 2 (some (.ref p))) H1) : tSeq (tAsg (tOp rCat (tVar 2) (tLst tr)) (gName 2)) tz D σ H := by
  obtain ⟨g, hp, hpa, hf, xs, h1, h2, h3⟩ := hm
  refine ⟨_, hσ, h H (Ex.refl _) _ fun vs H1 e1 hl hvs => ⟨by rw [hl]; exact sz_of (by omega), fun b hb => ?_⟩⟩
  have eb := same_new hb (.lst vs)
  refine ⟨p, b, xs, vs, rfl, rfl, eb _ _ (e1 _ _ h1), upd_same, by rw [h2, hl]; exact sz_of (by omega), fun c hc => ?_⟩
  have ec := same_new hc (.lst (xs ++ vs))
  have et := e1.trans (eb.trans ec)
  exact q c _ ⟨g.trans (Go.of et), hp.ex et, pool_new ((hp.ex e1).ex eb) hc, go_free g hp (fresh_back (e1.trans eb) hc), xs ++ vs, upd_same, by rw [List.length_append, h2, hl], fun v hv => by
    rcases List.mem_append.mp hv with h | h
    · exact h3 v h
    · exact hvs v h⟩
end
section
variable {P : Program} {w : World} {K : PySem.W.Frag} {mg : Str → Option Value} {base : Heap} {C f : Addr} {fd : FuncData}
def spOdd : Sp := fun vs H Q _ => ∃ (a : Addr) (l : Cs) (n : Nat), vs = [.ref a, vS l] ∧ l.length ≤ 180 ∧ Cok l ∧ n + 10 < 2 ^ 40 ∧ PoolAt a n H ∧ ∀ v H', Go a H H' → PoolAt a (n + 2) H' → GS 2500 v → Q v H'
theorem ok_law_odd (F : Fun K "_law_odd" "_law_odd" s__law_odd f fd) (T : Txt K mg C) (c__law_draw : Cal P w K mg base 1 "_law_draw" spDraw []) : FnOk P w K mg base L2.CX0 2 f fd ["pool", "wording"] spOdd := by
  refine F.ok sc__law_odd (fun vs H Q E h => ?_) (fun cdv A outer s H vs Q E hr h => ?_)
  · obtain ⟨a, l, n, rfl, _⟩ := h
    rfl
  obtain ⟨a, l, n, rfl, hl, hc, hn, hp, k⟩ := h
  have hwd : GS 180 (vS l) := ⟨l, rfl, hl, hc⟩
  refine ⟨_, (pss_cons (ps_set (i := 2) sc__law_odd.nd rfl (Or.inl rfl) (pe_lst (pa_cons pe_str (pa_cons pe_str (pa_cons pe_str (pa_cons pe_str (pa_cons pe_str (pa_cons pe_str (pa_cons pe_str (pa_cons pe_str (pa_cons pe_str (pa_cons pe_str (pa_cons pe_str (pa_cons pe_str (pa_cons pe_str (pa_cons pe_str (pa_cons pe_str pa_nil))))))))))))))))) (pss_cons (ps_set (i := 2) sc__law_odd.nd rfl (Or.inl rfl) (pe_op op_cat (pv 2) (pe_lst (pa_cons pe_str (pa_cons pe_str (pa_cons pe_str (pa_cons pe_str (pa_cons pe_str (pa_cons pe_str (pa_cons pe_str (pa_cons pe_str (pa_cons pe_str pa_nil)))))))))))) (pss_cons (ps_set (i := 2) sc__law_odd.nd rfl (Or.inl rfl) (pe_op op_cat (pv 2) (pe_lst (pa_cons pe_str (pa_cons pe_str (pa_cons pe_str pa_nil)))))) (pss_cons (ps_set (i := 2) sc__law_odd.nd rfl (Or.inl rfl) (pe_op op_cat (pv 2) (pe_lst (pa_cons (pe_op op_mul_str pe_str pe_int) (pa_cons (pe_op op_mul_str pe_str pe_int) (pa_cons (pe_op op_add_str pe_str (pe_op op_mul_str pe_str pe_int)) (pa_cons (pe_op op_add_str pe_str (pe_op op_mul_str pe_str pe_int)) (pa_cons pe_str (pa_cons pe_str pa_nil))))))))) (pss_cons (ps_set (i := 2) sc__law_odd.nd rfl (Or.inl rfl) (pe_op op_cat (pv 2) (pe_lst (pa_cons pe_str (pa_cons pe_str pa_nil))))) (pss_cons (ps_set (i := 2) sc__law_odd.nd rfl (Or.inl rfl) (pe_op op_cat (pv 2) (pe_lst (pa_cons (pe_op op_add_str (pe_op op_add_str pe_str (pe_op op_mul_str pe_str pe_int)) pe_str) (pa_cons (pe_op op_add_str (pe_op op_add_str pe_str (pe_op op_mul_str pe_str pe_int)) pe_str) (pa_cons (pe_op op_add_str (pe_op op_add_str pe_str (pe_op op_mul_str pe_str pe_int)) pe_str) pa_nil)))))) (pss_cons (ps_set (i := 2) sc__law_odd.nd rfl (Or.inl rfl) (pe_op op_cat (pv 2) (pe_lst (pa_cons pe_str (pa_cons pe_str pa_nil))))) (pss_cons (ps_set (i := 2) sc__law_odd.nd rfl (Or.inl rfl) (pe_op op_cat (pv 2) (pe_lst (pa_cons (pe_op op_add_str (pe_op op_add_str pe_str (pe_op op_mul_str pe_str pe_int)) pe_str) (pa_cons (pe_op op_add_str (pe_op op_add_str pe_str (pe_op op_mul_str pe_str pe_int)) pe_str) (pa_cons pe_str (pa_cons pe_str (pa_cons pe_str pa_nil)))))))) (pss_cons (ps_set (i := 2) sc__law_odd.nd rfl (Or.inl rfl) (pe_op op_cat (pv 2) (pe_lst (pa_cons pe_str (pa_cons pe_str (pa_cons pe_str (pa_cons pe_str (pa_cons pe_str (pa_cons pe_str (pa_cons pe_str pa_nil)))))))))) (pss_cons (ps_set (i := 2) sc__law_odd.nd rfl (Or.inl rfl) (pe_op op_cat (pv 2) (pe_lst (pa_cons pe_str pa_nil)))) (pss_cons (ps_set (i := 2) sc__law_odd.nd rfl (Or.inl rfl) (pe_op op_cat (pv 2) (pe_lst (pa_cons pe_str (pa_cons pe_str (pa_cons pe_str (pa_cons pe_str (pa_cons pe_str (pa_cons pe_str (pa_cons pe_str (pa_cons pe_str pa_nil))))))))))) (pss_cons (ps_set (i := 2) sc__law_odd.nd rfl (Or.inl rfl) (pe_op op_cat (pv 2) (pe_lst (pa_cons (pe_op op_add_str (pe_op op_add_str (pe_op op_mul_str pe_str pe_int) pe_str) (pe_op op_mul_str pe_str pe_int)) (pa_cons (pe_op op_add_str (pe_op op_mul_str pe_str pe_int) pe_str) (pa_cons (pe_op op_add_str (pe_op op_mul_str pe_str pe_int) pe_str) pa_nil)))))) (pss_cons (ps_set (i := 3) sc__law_odd.nd rfl (Or.inl rfl) (pe_op op_add pe_int (C8.pe_c c__law_draw hr (by omega) rfl (pa_cons (pv 0) (pa_cons pe_int pa_nil))))) (pss_cons (ps_for PassesOwn.never rfl (pi_tup (pe_tup (pa_cons pe_int (pa_cons pe_int pa_nil)))) (pg_name (i := 4) sc__law_odd.nd rfl (Or.inl rfl)) (pss_one (ps_expr (pe_bm PySem.F.plainAttrs_list PySem.F.slot_list_append PySem.F.type_list_append mt_append (pv 2) (pa_cons (pe_op op_add_str (pe_op op_add_str (pe_op op_add_str (pe_op op_mul_str pe_str (pv 3)) (pe_op op_mul_str pe_str (pe_op op_sub (pv 4) (pv 3)))) pe_str) (pe_op op_mul_str pe_str (pe_op op_sub (pv 4) (pv 3)))) pa_nil))))) (pss_cons (ps_set (i := 2) sc__law_odd.nd rfl (Or.inl rfl) (pe_op op_cat (pv 2) (pe_lst (pa_cons (pe_op op_add_str (pv 1) pe_str) (pa_cons (pe_op op_add_str pe_str (pv 1)) (pa_cons (pe_op op_add_str (pv 1) (pv 1)) pa_nil)))))) (pss_cons (ps_set (i := 2) sc__law_odd.nd rfl (Or.inl rfl) (pe_op op_cat (pv 2) (pe_lst (pa_cons (pe_op op_add_str (pe_op op_add_str pe_str (pv 1)) pe_str) (pa_cons (pe_op op_add_str pe_str (pv 1)) (pa_cons (pe_op op_add_str pe_str (pv 1)) pa_nil)))))) (pss_one (ps_ret (pe_ix ix_list (pv 2) (C8.pe_c c__law_draw hr (by omega) rfl (pa_cons (pv 0) (pa_cons (pe_callB call_len_seq (by rfl) T.len (by decide +kernel) (pa_cons (pv 2) pa_nil)) pa_nil))) (fun _ _ => rfl)))))))))))))))))))), ?_⟩
  refine odd_first (n := n) (k := 15) (Go.refl a H) hp (gqa_cons (gq_c (n := 0) (by decide +kernel)) (by decide) (gqa_cons (gq_c (n := 1) (by decide +kernel)) (by decide) (gqa_cons (gq_c (n := 3) (by decide +kernel)) (by decide) (gqa_cons (gq_c (n := 2) (by decide +kernel)) (by decide) (gqa_cons (gq_c (n := 2) (by decide +kernel)) (by decide) (gqa_cons (gq_c (n := 3) (by decide +kernel)) (by decide) (gqa_cons (gq_c (n := 8) (by decide +kernel)) (by decide) (gqa_cons (gq_c (n := 9) (by decide +kernel)) (by decide) (gqa_cons (gq_c (n := 3) (by decide +kernel)) (by decide) (gqa_cons (gq_c (n := 1) (by decide +kernel)) (by decide) (gqa_cons (gq_c (n := 2) (by decide +kernel)) (by decide) (gqa_cons (gq_c (n := 2) (by decide +kernel)) (by decide) (gqa_cons (gq_c (n := 2) (by decide +kernel)) (by decide) (gqa_cons (gq_c (n := 2) (by decide +kernel)) (by decide) (gqa_cons (gq_c (n := 3) (by decide +kernel)) (by decide) gqa_nil))))))))))))))) (by decide) (fun _ h => h) fun p1 H1 m1 => ?_
  refine odd_more (m := 15) (k := 9) m1 rfl (gqa_cons (gq_c (n := 6) (by decide +kernel)) (by decide) (gqa_cons (gq_c (n := 1) (by decide +kernel)) (by decide) (gqa_cons (gq_c (n := 3) (by decide +kernel)) (by decide) (gqa_cons (gq_c (n := 2) (by decide +kernel)) (by decide) (gqa_cons (gq_c (n := 3) (by decide +kernel)) (by decide) (gqa_cons (gq_c (n := 9) (by decide +kernel)) (by decide) (gqa_cons (gq_c (n := 10) (by decide +kernel)) (by decide) (gqa_cons (gq_c (n := 2) (by decide +kernel)) (by decide) (gqa_cons (gq_c (n := 3) (by decide +kernel)) (by decide) gqa_nil))))))))) (by decide) fun p2 H2 m2 => ?_
  refine odd_more (m := 24) (k := 3) m2 rfl (gqa_cons (gq_c (n := 3) (by decide +kernel)) (by decide) (gqa_cons (gq_c (n := 8) (by decide +kernel)) (by decide) (gqa_cons (gq_c (n := 2) (by decide +kernel)) (by decide) gqa_nil))) (by decide) fun p3 H3 m3 => ?_
  refine odd_more (m := 27) (k := 6) m3 rfl (gqa_cons (gq_mul (gq_c (n := 1) (by decide +kernel)) ev_c (by decide) (by decide) (by decide)) (by decide) (gqa_cons (gq_mul (gq_c (n := 1) (by decide +kernel)) ev_c (by decide) (by decide) (by decide)) (by decide) (gqa_cons (gq_cat (gq_c (n := 1) (by decide +kernel)) (gq_mul (gq_c (n := 1) (by decide +kernel)) ev_c (by decide) (by decide) (by decide)) (by decide)) (by decide) (gqa_cons (gq_cat (gq_c (n := 1) (by decide +kernel)) (gq_mul (gq_c (n := 1) (by decide +kernel)) ev_c (by decide) (by decide) (by decide)) (by decide)) (by decide) (gqa_cons (gq_c (n := 8) (by decide +kernel)) (by decide) (gqa_cons (gq_c (n := 9) (by decide +kernel)) (by decide) gqa_nil)))))) (by decide) fun p4 H4 m4 => ?_
  refine odd_more (m := 33) (k := 2) m4 rfl (gqa_cons (gq_c (n := 9) (by decide +kernel)) (by decide) (gqa_cons (gq_c (n := 9) (by decide +kernel)) (by decide) gqa_nil)) (by decide) fun p5 H5 m5 => ?_
  refine odd_more (m := 35) (k := 3) m5 rfl (gqa_cons (gq_cat (gq_cat (gq_c (n := 5) (by decide +kernel)) (gq_mul (gq_c (n := 1) (by decide +kernel)) ev_c (by decide) (by decide) (by decide)) (by decide)) (gq_c (n := 1) (by decide +kernel)) (by decide)) (by decide) (gqa_cons (gq_cat (gq_cat (gq_c (n := 5) (by decide +kernel)) (gq_mul (gq_c (n := 1) (by decide +kernel)) ev_c (by decide) (by decide) (by decide)) (by decide)) (gq_c (n := 1) (by decide +kernel)) (by decide)) (by decide) (gqa_cons (gq_cat (gq_cat (gq_c (n := 1) (by decide +kernel)) (gq_mul (gq_c (n := 1) (by decide +kernel)) ev_c (by decide) (by decide) (by decide)) (by decide)) (gq_c (n := 5) (by decide +kernel)) (by decide)) (by decide) gqa_nil))) (by decide) fun p6 H6 m6 => ?_
  refine odd_more (m := 38) (k := 2) m6 rfl (gqa_cons (gq_c (n := 8) (by decide +kernel)) (by decide) (gqa_cons (gq_c (n := 9) (by decide +kernel)) (by decide) gqa_nil)) (by decide) fun p7 H7 m7 => ?_
  refine odd_more (m := 40) (k := 5) m7 rfl (gqa_cons (gq_cat (gq_cat (gq_c (n := 7) (by decide +kernel)) (gq_mul (gq_c (n := 1) (by decide +kernel)) ev_c (by decide) (by decide) (by decide)) (by decide)) (gq_c (n := 1) (by decide +kernel)) (by decide)) (by decide) (gqa_cons (gq_cat (gq_cat (gq_c (n := 7) (by decide +kernel)) (gq_mul (gq_c (n := 1) (by decide +kernel)) ev_c (by decide) (by decide) (by decide)) (by decide)) (gq_c (n := 1) (by decide +kernel)) (by decide)) (by decide) (gqa_cons (gq_c (n := 8) (by decide +kernel)) (by decide) (gqa_cons (gq_c (n := 10) (by decide +kernel)) (by decide) (gqa_cons (gq_c (n := 9) (by decide +kernel)) (by decide) gqa_nil))))) (by decide) fun p8 H8 m8 => ?_
  refine odd_more (m := 45) (k := 7) m8 rfl (gqa_cons (gq_c (n := 8) (by decide +kernel)) (by decide) (gqa_cons (gq_c (n := 9) (by decide +kernel)) (by decide) (gqa_cons (gq_c (n := 8) (by decide +kernel)) (by decide) (gqa_cons (gq_c (n := 10) (by decide +kernel)) (by decide) (gqa_cons (gq_c (n := 8) (by decide +kernel)) (by decide) (gqa_cons (gq_c (n := 8) (by decide +kernel)) (by decide) (gqa_cons (gq_c (n := 8) (by decide +kernel)) (by decide) gqa_nil))))))) (by decide) fun p9 H9 m9 => ?_
  refine odd_more (m := 52) (k := 1) m9 rfl (gqa_cons (gq_c (n := 8) (by decide +kernel)) (by decide) gqa_nil) (by decide) fun p10 H10 m10 => ?_
  refine odd_more (m := 53) (k := 8) m10 rfl (gqa_cons (gq_c (n := 6) (by decide +kernel)) (by decide) (gqa_cons (gq_c (n := 5) (by decide +kernel)) (by decide) (gqa_cons (gq_c (n := 9) (by decide +kernel)) (by decide) (gqa_cons (gq_c (n := 5) (by decide +kernel)) (by decide) (gqa_cons (gq_c (n := 11) (by decide +kernel)) (by decide) (gqa_cons (gq_c (n := 11) (by decide +kernel)) (by decide) (gqa_cons (gq_c (n := 4) (by decide +kernel)) (by decide) (gqa_cons (gq_c (n := 10) (by decide +kernel)) (by decide) gqa_nil)))))))) (by decide) fun p11 H11 m11 => ?_
  refine odd_more (m := 61) (k := 3) m11 rfl (gqa_cons (gq_cat (gq_cat (gq_mul (gq_c (n := 1) (by decide +kernel)) ev_c (by decide) (by decide) (by decide)) (gq_c (n := 1) (by decide +kernel)) (by decide)) (gq_mul (gq_c (n := 5) (by decide +kernel)) ev_c (by decide) (by decide) (by decide)) (by decide)) (by decide) (gqa_cons (gq_cat (gq_mul (gq_c (n := 1) (by decide +kernel)) ev_c (by decide) (by decide) (by decide)) (gq_c (n := 1) (by decide +kernel)) (by decide)) (by decide) (gqa_cons (gq_cat (gq_mul (gq_c (n := 1) (by decide +kernel)) ev_c (by decide) (by decide) (by decide)) (gq_c (n := 2) (by decide +kernel)) (by decide)) (by decide) gqa_nil))) (by decide) fun p12 H12 m12 => ?_
  obtain ⟨gA, pA, paA, pfA, mA⟩ := m12
  refine ⟨_, rfl, a, 11, n, rfl, by decide, by decide, by omega, pA, fun r HA r0 r1 gB pB => ⟨_, _, rfl, rfl, ?_⟩⟩
  have mB := mA.go gB paA
  refine ⟨by show 2 ≤ sizeLine; decide, fun tp htp => ?_⟩
  have et := same_new htp (.tup [.int 12, .int 13])
  refine ⟨tp, rfl, ⟨_, SqT.of upd_same⟩, for_tup (K := K) (a := tp) (xs := [.int 12, .int 13]) (fun i σ' H' => ∃ v, σ' = [some (.ref a), some (vS l), some (.ref p12), some (.int (1 + r)), v] ∧ H' tp = some (.tup [.int 12, .int 13]) ∧ OddS a (n + 1) H p12 (64 + i) H')
    ⟨none, rfl, upd_same, (gA.trans gB).trans (Go.of et), pB.ex et, paA, pfA, mB.go (Go.of et) paA⟩ (fun i σ' H' _ ⟨_, _, h, _⟩ => SqT.of h) ?_ ?_⟩
  · rintro i x σ' H' hx ⟨v, rfl, htp', gC, pC, paC, pfC, xs, h1, h2, h3⟩
    obtain ⟨sz, rfl, hs1, hs2⟩ : ∃ sz : Int, x = .int sz ∧ 12 ≤ sz ∧ sz ≤ 13 := by
      match i, hx with
      | 0, hx => exact ⟨12, (Option.some.inj hx).symm, by decide, by decide⟩
      | 1, hx => exact ⟨13, (Option.some.inj hx).symm, by decide, by decide⟩
      | i + 2, hx => cases hx
    have hi2 : i < 2 := (List.getElem?_eq_some_iff.mp hx).1
    refine ⟨_, rfl, .inl ⟨rfl, _, SqL.of h1⟩, ?_⟩
    refine gq_cat (gq_cat (gq_cat (gq_mul (n := 1) (gq_c (by decide +kernel)) (ev_var (v := .int (1 + r)) rfl) (by omega) (by omega) (by decide)) (gq_mul (n := 1) (gq_c (by decide +kernel)) (ev_op (ev_var rfl) (ev_var rfl) rv_I0) (by omega) (by omega) (by decide)) (by omega)) (gq_c (n := 2) (by decide +kernel)) (by omega)) (gq_mul (n := 5) (gq_c (by decide +kernel)) (ev_op (ev_var rfl) (ev_var rfl) rv_I0) (by omega) (by omega) (by decide)) (by omega) H' (Ex.refl _) _ fun y H2 e2 hy => ?_
    refine ⟨p12, _, _, rfl, rfl, e2 _ _ h1, by rw [h2]; exact sz_lt (by omega), ?_⟩
    have nep : tp ≠ p12 := fun e => by rw [e, h1] at htp'; cases htp'
    refine ⟨_, rfl, by rw [upd_ne nep]; exact e2 _ _ htp', ?_, ?_, paC, pfC, _, upd_same, by rw [List.length_append, h2]; rfl, fun u hu => ?_⟩
    · exact fun b o hb hH => by
        have hbp : b ≠ p12 := fun e => by rw [e, pfC] at hH; cases hH
        rw [upd_ne hbp]; exact e2 _ _ (gC b o hb hH)
    · obtain ⟨d, mm, cc, q1, q2⟩ := pC
      exact ⟨d, mm, cc, by rw [upd_ne (fun e => paC e.symm)]; exact e2 _ _ q1, q2⟩
    · rcases List.mem_append.mp hu with h | h
      · exact h3 u h
      · rw [List.mem_singleton.mp h]; exact hy.mono (by omega)
  rintro σ' H12 ⟨vv, rfl, _, m12⟩
  refine odd_more (m := 66) (k := 3) m12 rfl (gqa_cons (gq_cat (gq_var rfl hwd) (gq_c (n := 1) (by decide +kernel)) (by decide)) (by decide) (gqa_cons (gq_cat (gq_c (n := 1) (by decide +kernel)) (gq_var rfl hwd) (by decide)) (by decide) (gqa_cons (gq_cat (gq_var rfl hwd) (gq_var rfl hwd) (by decide)) (by decide) gqa_nil))) (by decide) fun p13 H13 m13 => ?_
  refine odd_more (m := 69) (k := 3) m13 rfl (gqa_cons (gq_cat (gq_cat (gq_c (n := 1) (by decide +kernel)) (gq_var rfl hwd) (by decide)) (gq_c (n := 1) (by decide +kernel)) (by decide)) (by decide) (gqa_cons (gq_cat (gq_c (n := 1) (by decide +kernel)) (gq_var rfl hwd) (by decide)) (by decide) (gqa_cons (gq_cat (gq_c (n := 1) (by decide +kernel)) (gq_var rfl hwd) (by decide)) (by decide) gqa_nil))) (by decide) fun p14 H14 m14 => ?_
  obtain ⟨gD, pD, paD, pfD, xs, h1, h2, h3⟩ := m14
  refine ⟨_, rfl, _, rfl, _, rfl, p14, _, rfl, .inl (SqL.of h1), a, _, n + 1, rfl, by rw [h2]; decide, by rw [h2]; decide, by omega, pD, fun i HE i0 i1 gE pE => ?_⟩
  have hE := gE _ _ paD h1
  obtain ⟨j, rfl⟩ := Int.eq_ofNat_of_zero_le i0
  have hj : j < xs.length := by omega
  exact ⟨p14, xs, _, xs[j], rfl, rfl, SqL.of hE, atI_nat (List.getElem?_eq_getElem hj), k _ _ (gD.trans gE) pE (h3 _ (List.getElem_mem hj))⟩
end
end E60
namespace E60
open PySem L2 Evl SX
abbrev s__law_bent : Stmt := topS 49
theorem sc__law_bent : FnScope ["pool", "wording", "spot", "way", "others", "signs", "sign", "some", "one", "two", "piece"] ["pool", "wording"] (defScope s__law_bent) := ⟨rfl, rfl, rfl, by decide +kernel, rfl, by decide +kernel, by decide +kernel⟩

section
variable {σ : L2.St} {H : Hp} {te ta tb : TE} {tr : TA}
theorem gq_to {n : Nat} {i : Int} (h1 : EvQ ta σ H (GS n)) (h2 : Ev tb σ H (.int i)) (hi : 0 ≤ i) (hn : n ≤ 100000) : EvQ (tSl C8.rSlX ta tNoPart (tPart tb)) σ H (GS n) := fun H1 e Q q =>
  h1 H1 e _ fun v H2 e2 ⟨a, hv, hl, hc⟩ => h2 H2 (e.trans e2) _ fun H3 e3 => by
    subst hv
    refine ⟨i, rfl, _, rfl, by rw [S_len]; exact sz_of (by omega), ?_⟩
    rw [slice_to hi]
    exact q _ H3 (e2.trans e3) ⟨_, rfl, by rw [List.length_take]; omega, fun c hc' => hc c (List.mem_of_mem_take hc')⟩
theorem gq_from {n : Nat} {i : Int} (h1 : EvQ ta σ H (GS n)) (h2 : Ev tb σ H (.int i)) (hi : 0 ≤ i) (hn : n ≤ 100000) : EvQ (tSl C8.rSlX ta (tPart tb) tNoPart) σ H (GS n) := fun H1 e Q q =>
  h1 H1 e _ fun v H2 e2 ⟨a, hv, hl, hc⟩ => h2 H2 (e.trans e2) _ fun H3 e3 => by
    subst hv
    refine ⟨i, rfl, _, rfl, by rw [S_len]; exact sz_of (by omega), ?_⟩
    rw [slice_from hi]
    exact q _ H3 (e2.trans e3) ⟨_, rfl, by rw [List.length_drop]; omega, fun c hc' => hc c (List.mem_of_mem_drop hc')⟩
theorem s_retQ {D : Ends} {Pv : V → Prop} (h : EvQ te σ H Pv) (k : ∀ v H1, Ex H H1 → Pv v → D.rt v H1) : tRet te D σ H := h H (Ex.refl _) _ k
theorem EvQ.mono {n m : Nat} (h : EvQ te σ H (GS n)) (e : n ≤ m) : EvQ te σ H (GS m) := fun H1 e1 Q q => h H1 e1 Q fun v H2 e2 g => q v H2 e2 (g.mono e)
end
/-- signs to put in -/
def SgOk (v : V) : Prop := ∃ m : Cs, v = vS m ∧ 1 ≤ m.length ∧ m.length ≤ 200 ∧ Cok m
theorem sg_of {x : Str} (h : okS x 200 = true) (h1 : 1 ≤ x.length) : SgOk (.str x) := by
  obtain ⟨l, e, hl, hc⟩ := gs_of h
  refine ⟨l, e, ?_, hl, hc⟩
  have e' := V.str.inj e
  rw [e', S_len] at h1
  exact h1
theorem join_len : ∀ ps : List Cs, (TL.joinL [32] ps).length ≤ wt ps
  | [] => Nat.zero_le _
  | [p] => by
    show p.length ≤ p.length + 1 + 0
    omega
  | p :: q :: r => by
    have := join_len (q :: r)
    show (p ++ ([32] ++ TL.joinL [32] (q :: r))).length ≤ p.length + 1 + wt (q :: r)
    rw [List.length_append, List.length_append, List.length_singleton]; omega
theorem join_mem : ∀ (ps : List Cs) (c : Nat), c ∈ TL.joinL [32] ps → c = 32 ∨ ∃ p ∈ ps, c ∈ p
  | [], c, h => by cases h
  | [p], c, h => .inr ⟨p, List.mem_singleton.mpr rfl, h⟩
  | p :: q :: r, c, h => by
    have h' : c ∈ p ++ ([32] ++ TL.joinL [32] (q :: r)) := h
    rcases List.mem_append.mp h' with h | h
    · exact .inr ⟨p, List.mem_cons_self, h⟩
    · rcases List.mem_append.mp h with h | h
      · exact .inl (List.mem_singleton.mp h)
      · rcases join_mem (q :: r) c h with h | ⟨p', hp, h⟩
        · exact .inl h
        · exact .inr ⟨p', List.mem_cons_of_mem _ hp, h⟩
theorem mem_join : ∀ (ps : List Cs) (p : Cs) (c : Nat), p ∈ ps → c ∈ p → c ∈ TL.joinL [32] ps
  | [], p, c, h, _ => by cases h
  | [q], p, c, h, hc => by rw [List.mem_singleton.mp h] at hc; exact hc
  | q :: r :: s, p, c, h, hc => by
    show c ∈ q ++ ([32] ++ TL.joinL [32] (r :: s))
    rcases List.mem_cons.mp h with h | h
    · subst h; exact List.mem_append_left _ hc
    · exact List.mem_append_right _ (List.mem_append_right _ (mem_join (r :: s) p c h hc))
theorem wt_le (m : Nat) : ∀ ps : List Cs, (∀ p ∈ ps, p.length ≤ m) → wt ps ≤ ps.length * (m + 1)
  | [], _ => Nat.zero_le _
  | p :: r, h => by
    have := wt_le m r fun q hq => h q (List.mem_cons_of_mem _ hq)
    have h1 := h p List.mem_cons_self
    show p.length + 1 + wt r ≤ (r.length + 1) * (m + 1)
    rw [Nat.add_mul]; omega
theorem sum_wt : ∀ ps : List Cs, ((ps.map S).map (·.length)).sum + ps.length = wt ps
  | [] => rfl
  | p :: r => by
    have := sum_wt r
    show (S p).length + ((r.map S).map (·.length)).sum + (r.length + 1) = p.length + 1 + wt r
    rw [S_len]; omega
theorem mem_set {α : Type} {l : List α} {i : Nat} {x y : α} (h : y ∈ l.set i x) : y ∈ l ∨ y = x := List.mem_or_eq_of_mem_set h
section
variable {P : Program} {w : World} {K : PySem.W.Frag} {mg : Str → Option Value} {base : Heap} {C f : Addr} {fd : FuncData}
def spBent : Sp := fun vs H Q _ => ∃ (a : Addr) (l : Cs) (n : Nat), vs = [.ref a, vS l] ∧ l.length ≤ 180 ∧ Cok l ∧ n + 20 < 2 ^ 40 ∧ PoolAt a n H ∧ ∀ v H', Go a H H' → PoolAt a (n + 10) H' → GS 40000 v → Q v H'
theorem ok_law_bent (F : Fun K "_law_bent" "_law_bent" s__law_bent f fd) (T : Txt K mg C) (c__law_draw : Cal P w K mg base 1 "_law_draw" spDraw []) (c__law_odd : Cal P w K mg base 2 "_law_odd" spOdd []) : FnOk P w K mg base L2.CX0 3 f fd ["pool", "wording"] spBent := by
  refine F.ok sc__law_bent (fun vs H Q E h => ?_) (fun cdv A outer s H vs Q E hr h => ?_)
  · obtain ⟨a, l, n, rfl, _⟩ := h
    rfl
  obtain ⟨a, l, n, rfl, hl, hc, hn, hp, k⟩ := h
  have hwd : GS 180 (vS l) := ⟨l, rfl, hl, hc⟩
  refine ⟨_, (pss_cons (ps_par (i := 2) (j := 3) (by rfl) sc__law_bent.nd rfl rfl (by decide) rfl rfl (pa_cons (C8.pe_c c__law_draw hr (by omega) rfl (pa_cons (pv 0) (pa_cons (pe_op op_add (pe_callB call_len_str (by rfl) T.len (by decide +kernel) (pa_cons (pv 1) pa_nil)) pe_int) pa_nil))) (pa_cons (C8.pe_c c__law_draw hr (by omega) rfl (pa_cons (pv 0) (pa_cons pe_int pa_nil))) pa_nil)) (by rfl)) (pss_cons (ps_set (i := 4) sc__law_bent.nd rfl (Or.inl rfl) pe_str) (pss_cons (ps_set (i := 5) sc__law_bent.nd rfl (Or.inl rfl) (pe_ix ix_list (pe_lst (pa_cons pe_str (pa_cons (pe_op op_add_str (pe_op op_add_str (pv 4) pe_str) pe_str) pa_nil))) (C8.pe_c c__law_draw hr (by omega) rfl (pa_cons (pv 0) (pa_cons pe_int pa_nil))) (fun _ _ => rfl))) (pss_cons (ps_set (i := 6) sc__law_bent.nd rfl (Or.inl rfl) (pe_ix ix_str (pv 5) (C8.pe_c c__law_draw hr (by omega) rfl (pa_cons (pv 0) (pa_cons (pe_callB call_len_str (by rfl) T.len (by decide +kernel) (pa_cons (pv 5) pa_nil)) pa_nil))) (fun _ _ => rfl))) (pss_cons (ps_if (pt_cmpR op_eq (pv 3) pe_int (nomark _)) (pss_one (ps_ret (pe_op op_add_str (pe_op op_add_str (pe_slice C8.sl_txt (pv 1) po_none (po_some (pv 2))) (pv 6)) (pe_slice C8.sl_txt (pv 1) (po_some (pv 2)) po_none)))) pss_nil) (pss_cons (ps_if (pt_cmpR op_eq (pv 3) pe_int (nomark _)) (pss_one (ps_ret (pe_op op_add_str (pe_slice C8.sl_txt (pv 1) po_none (po_some (pv 2))) (pe_slice C8.sl_txt (pv 1) (po_some (pe_op op_add (pv 2) pe_int)) po_none)))) pss_nil) (pss_cons (ps_if (pt_cmpR op_eq (pv 3) pe_int (nomark _)) (pss_one (ps_ret (pe_op op_add_str (pe_op op_add_str (pe_slice C8.sl_txt (pv 1) po_none (po_some (pv 2))) (pv 6)) (pe_slice C8.sl_txt (pv 1) (po_some (pe_op op_add (pv 2) pe_int)) po_none)))) pss_nil) (pss_cons (ps_if (pt_cmpR op_eq (pv 3) pe_int (nomark _)) (pss_one (ps_ret (C8.pe_c c__law_odd hr (by omega) rfl (pa_cons (pv 0) (pa_cons (pv 1) pa_nil))))) pss_nil) (pss_cons (ps_if (pt_cmpR op_eq (pv 3) pe_int (nomark _)) (pss_cons (ps_set (i := 7) sc__law_bent.nd rfl (Or.inl rfl) (pe_split (pv 1) pe_str)) (pss_cons (ps_par (i := 8) (j := 9) (by rfl) sc__law_bent.nd rfl rfl (by decide) rfl rfl (pa_cons (C8.pe_c c__law_draw hr (by omega) rfl (pa_cons (pv 0) (pa_cons (pe_callB call_len_seq (by rfl) T.len (by decide +kernel) (pa_cons (pv 7) pa_nil)) pa_nil))) (pa_cons (C8.pe_c c__law_draw hr (by omega) rfl (pa_cons (pv 0) (pa_cons (pe_callB call_len_seq (by rfl) T.len (by decide +kernel) (pa_cons (pv 7) pa_nil)) pa_nil))) pa_nil)) (by rfl)) (pss_cons (ps_set (i := 10) sc__law_bent.nd rfl (Or.inl rfl) (pe_ix ix_list (pv 7) (pv 8) (fun _ _ => rfl))) (pss_cons (ps_asg (pe_ix ix_list (pv 7) (pv 9) (fun _ _ => rfl)) (pg_sub (pv 7) (pv 8) set_list)) (pss_cons (ps_asg (pv 10) (pg_sub (pv 7) (pv 9) set_list)) (pss_one (ps_ret (pe_join pe_str (pv 7))))))))) pss_nil) (pss_one (ps_ret (pv 1)))))))))))), ?_⟩
  -- spot, way
  refine ⟨_, rfl, _, rfl, S l, rfl, by rw [S_len]; exact sz_of (by omega), _, _, rfl, rfl, a, _, n, rfl, by rw [S_len]; omega, by rw [S_len]; omega, by omega, hp, fun sp H1 sp0 sp1 g1 p1 => ?_⟩
  refine ⟨_, rfl, a, 7, n + 1, rfl, by decide, by decide, by omega, p1, fun wy H2 wy0 wy1 g2 p2 => ⟨_, _, rfl, ?_⟩⟩
  -- others, signs
  refine ⟨_, rfl, _, _, rfl, rfl, (by decide +kernel), _, _, rfl, rfl, (by decide +kernel), by show 2 ≤ sizeLine; decide, fun pl hpl => ?_⟩
  have pl2 := p2.ex (same_new hpl (.lst [.str "0123456789 -/~()+&|*<=?!mod", .str (Str.ofString "abcdefghijklmnopqrstuvwxyzABCDEFGHIJKLMNOPQRSTUVWXYZ0123456789 !#*+,-./:;<=>?()[]_{|}$&'@^~`" ++ Str.ofString "\\" ++ Str.ofString "\"")]))
  refine ⟨_, rfl, a, 2, n + 2, rfl, by decide, by decide, by omega, pl2, fun r H3 r0 r1 g3 p3 => ?_⟩
  have hpl3 := g3 pl _ (pool_new p2 hpl) upd_same
  have gA : Go a H H3 := g1.trans (g2.trans ((Go.of (same_new hpl _)).trans g3))
  obtain ⟨x, hx, m, rfl, hm1, hm2, hmc⟩ : ∃ x, atI [V.str "0123456789 -/~()+&|*<=?!mod", V.str (Str.ofString "abcdefghijklmnopqrstuvwxyzABCDEFGHIJKLMNOPQRSTUVWXYZ0123456789 !#*+,-./:;<=>?()[]_{|}$&'@^~`" ++ Str.ofString "\\" ++ Str.ofString "\"")] r = some x ∧ SgOk x := by
    obtain ⟨j, rfl⟩ := Int.eq_ofNat_of_zero_le r0
    match j, (show j < 2 by omega) with
    | 0, _ => exact ⟨_, atI_nat (j := 0) rfl, sg_of (by decide +kernel) (by decide +kernel)⟩
    | 1, _ => exact ⟨_, atI_nat (j := 1) rfl, sg_of (by decide +kernel) (by decide +kernel)⟩
  refine ⟨pl, _, r, _, rfl, rfl, SqL.of hpl3, hx, ?_⟩
  -- sign
  refine ⟨_, rfl, _, rfl, _, rfl, S m, rfl, by rw [S_len]; exact sz_of (by omega), a, _, n + 3, rfl, by rw [S_len]; omega, by rw [S_len]; omega, by omega, p3, fun i H4 i0 i1 g4 p4 => ?_⟩
  rw [S_len] at i1
  obtain ⟨j, rfl⟩ := Int.eq_ofNat_of_zero_le i0
  have hj : j < m.length := by omega
  refine ⟨S m, _, m[j], rfl, rfl, by rw [S_len]; exact sz_of (by omega), atI_nat (List.getElem?_eq_getElem hj), ?_⟩
  have hsg : GS 1 (.str ⟨#[m[j]]⟩) := ⟨[m[j]], rfl, Nat.le_refl _, fun c h => by rw [List.mem_singleton.mp h]; exact hmc _ (List.getElem_mem hj)⟩
  have gB : Go a H H4 := gA.trans g4
  have spv : sp + 1 = ((sp.toNat + 1 : Nat) : Int) := by omega
  have fin : ∀ {m : Nat} {v : V} {H' : Hp}, GS m v → m ≤ 40000 → Ex H4 H' → Q v H' := fun h hm e => k _ _ (gB.trans (Go.of e)) ((p4.ex e).mono (by omega)) (h.mono hm)
  -- ways 0, 1, 2
  refine q_when (et_test (ev_op (ev_var rfl) ev_c (rv_eq rfl))) (fun q H5 e5 => s_retQ (gq_cat (gq_cat (gq_to (gq_var rfl hwd) (ev_var rfl) sp0 (by decide)) (gq_var rfl hsg) (by decide)) (gq_from (gq_var rfl hwd) (ev_var rfl) sp0 (by decide)) (by decide)) fun v H6 e6 h => fin h (by decide) (e5.trans e6)) (fun q H5 e5 => ?_)
  refine q_when (et_test (ev_op (ev_var rfl) ev_c (rv_eq rfl))) (fun q H6 e6 => s_retQ (gq_cat (gq_to (gq_var rfl hwd) (ev_var rfl) sp0 (by decide)) (gq_from (gq_var rfl hwd) (ev_op (ev_var rfl) ev_c rv_I0) (by omega) (by decide)) (by decide)) fun v H7 e7 h => fin h (by decide) (e5.trans (e6.trans e7))) (fun q H6 e6 => ?_)
  refine q_when (et_test (ev_op (ev_var rfl) ev_c (rv_eq rfl))) (fun q H7 e7 => s_retQ (gq_cat (gq_cat (gq_to (gq_var rfl hwd) (ev_var rfl) sp0 (by decide)) (gq_var rfl hsg) (by decide)) (gq_from (gq_var rfl hwd) (ev_op (ev_var rfl) ev_c rv_I0) (by omega) (by decide)) (by decide)) fun v H8 e8 h => fin h (by decide) (e5.trans (e6.trans (e7.trans e8)))) (fun q H7 e7 => ?_)
  -- way 3
  have ex7 : Ex H4 H7 := e5.trans (e6.trans e7)
  refine q_when (et_test (ev_op (ev_var rfl) ev_c (rv_eq rfl))) (fun q H8 e8 => ?_) (fun q H8 e8 => ?_)
  · exact ⟨_, rfl, _, rfl, a, l, n + 4, rfl, hl, hc, by omega, p4.ex (ex7.trans e8), fun v H9 g9 p9 h => k _ _ (gB.trans ((Go.of (ex7.trans e8)).trans g9)) (p9.mono (by omega)) (h.mono (by decide))⟩
  have ex8 := ex7.trans e8
  refine q_when (et_test (ev_op (ev_var rfl) ev_c (rv_eq rfl))) (fun q H9 e9 => ?_) (fun q H9 e9 => ?_)
  · have ex9 := ex8.trans e9
    have p9 := p4.ex ex9
    refine ⟨_, rfl, ⟨_, rfl⟩, S l, Str.ofString " ", rfl, rfl, by decide +kernel, by rw [S_len]; exact sz_of (by omega), fun ps hps => ?_⟩
    have e32 : Str.ofString " " = S [32] := by decide +kernel
    rw [e32, split_32, List.map_map]
    have hwt := spl_wt l
    have hmem : ∀ q ∈ TL.spl [32] 0 [] l, q.length ≤ 180 ∧ Cok q := fun q hq => by
      refine ⟨?_, fun c hc' => ?_⟩
      · have := wt_mem hq; omega
      · have e := StrLaws.join_split (S l) (S [32])
        rw [split_32] at e
        have e2 := congrArg TL.tl e
        rw [TL.tl_join, map_S_tl] at e2
        have e3 : TL.joinL [32] (TL.spl [32] 0 [] l) = l := e2
        refine hc c ?_
        rw [← e3]
        exact mem_join _ q c hq hc'
    have hpos : 1 ≤ (TL.spl [32] 0 [] l).length := by
      have := PyProof.Rows.split_pos (S l) (S [32])
      rw [split_32, List.length_map] at this; exact this
    have hlen : (TL.spl [32] 0 [] l).length ≤ 181 := by
      have := wt_len (TL.spl [32] 0 [] l); omega
    generalize TL.spl [32] 0 [] l = parts at hmem hpos hlen ⊢
    have pn := pool_new p9 hps
    have p10 := p9.ex (same_new hps (.lst (parts.map (V.str ∘ S))))
    -- one, two
    refine ⟨_, rfl, _, rfl, ps, _, rfl, .inl (SqL.of upd_same), a, _, n + 4, rfl, by rw [List.length_map]; omega, by rw [List.length_map]; omega, by omega, p10, fun i1 H11 i10 i11 g11 p11 => ?_⟩
    have h11 := g11 ps _ pn upd_same
    refine ⟨_, rfl, _, rfl, ps, _, rfl, .inl (SqL.of h11), a, _, n + 5, rfl, by rw [List.length_map]; omega, by rw [List.length_map]; omega, by omega, p11, fun i2 H12 i20 i21 g12 p12 => ⟨_, _, rfl, ?_⟩⟩
    have h12 : H12 ps = some (.lst (parts.map vS)) := g12 ps _ pn h11
    rw [List.length_map] at i11 i21
    obtain ⟨j1, rfl⟩ := Int.eq_ofNat_of_zero_le i10
    obtain ⟨j2, rfl⟩ := Int.eq_ofNat_of_zero_le i20
    have hj1 : j1 < parts.length := by omega
    have hj2 : j2 < parts.length := by omega
    have at_ : ∀ {qs : List Cs} {j : Nat} (h : j < qs.length), atI (qs.map vS) (j : Int) = some (vS qs[j]) := fun h => atI_nat (by rw [List.getElem?_map, List.getElem?_eq_getElem h]; rfl)
    -- piece = some[one]; some[one] = some[two]; some[two] = piece
    refine ⟨_, rfl, _, rfl, ps, _, _, _, rfl, rfl, SqL.of h12, at_ hj1, ?_⟩
    refine ⟨_, rfl, _, rfl, ps, _, _, _, rfl, rfl, SqL.of h12, at_ hj2, _, rfl, _, rfl, ps, _, _, j1, rfl, rfl, h12, ixN_nat (by rw [List.length_map]; exact hj1), ?_⟩
    rw [← List.map_set]
    have hset1 : (upd H12 ps (.lst ((parts.set j1 parts[j2]).map vS))) ps = some (.lst ((parts.set j1 parts[j2]).map vS)) := upd_same
    refine ⟨_, rfl, _, rfl, _, rfl, ps, _, _, j2, rfl, rfl, hset1, ixN_nat (by rw [List.length_map, List.length_set]; exact hj2), ?_⟩
    rw [← List.map_set]
    generalize hfin : (parts.set j1 parts[j2]).set j2 parts[j1] = qs
    have hqs : ∀ q ∈ qs, q.length ≤ 180 ∧ Cok q := fun q hq => by
      subst hfin
      rcases mem_set hq with h | h
      · rcases mem_set h with h | h
        · exact hmem q h
        · rw [h]; exact hmem _ (List.getElem_mem hj2)
      · rw [h]; exact hmem _ (List.getElem_mem hj1)
    have hql : qs.length ≤ 181 := by rw [← hfin, List.length_set, List.length_set]; exact hlen
    have hw2 := wt_le 180 qs fun q hq => (hqs q hq).1
    have hw3 : wt qs ≤ 181 * 181 := Nat.le_trans hw2 (Nat.mul_le_mul_right _ hql)
    refine ⟨⟨_, rfl⟩, _, rfl, Str.ofString " ", ps, qs.map S, rfl, rfl, .inl (SqL.of (by rw [upd_same, List.map_map]; rfl)), ?_, ?_⟩
    · have := sum_wt qs
      rw [show (Str.ofString " ").length = 1 from by decide +kernel, List.length_map]
      omega
    · rw [e32, join_S]
      refine k _ _ ?_ ?_ ⟨_, rfl, Nat.le_trans (join_len qs) (by omega), fun c hc' => ?_⟩
      · exact fun b o hb hH => by
          have hbp : b ≠ ps := fun e => by
            have := gB.trans (Go.of ex9) b o hb hH
            rw [e, hps] at this; cases this
          rw [upd_ne hbp, upd_ne hbp]
          exact g12 _ _ hb (g11 _ _ hb (same_new hps _ _ _ ((gB.trans (Go.of ex9)) b o hb hH)))
      · obtain ⟨d, mm, cc, q1, q2⟩ := p12
        refine PoolAt.mono (n := n + 6) ⟨d, mm, cc, ?_, q2⟩ (by omega)
        rw [upd_ne pn.symm, upd_ne pn.symm]; exact q1
      · rcases join_mem qs c hc' with h | ⟨p, hp', h⟩
        · omega
        · exact (hqs p hp').2 c h
  · exact s_retQ (gq_var rfl hwd) fun v H10 e10 h => fin h (by decide) (ex8.trans (e9.trans e10))
end
end E60
namespace E60
open PySem L2 Evl SX
abbrev s_RunError___init__ : Stmt := inClass (topS 2) 0
theorem sc_RunError___init__ : FnScope ["self", "value"] ["self", "value"] (defScope s_RunError___init__) := ⟨rfl, rfl, rfl, by decide +kernel, rfl, by decide +kernel, by decide +kernel⟩
abbrev s_read_value : Stmt := topS 34
theorem sc_read_value : FnScope ["text", "found"] ["text"] (defScope s_read_value) := ⟨rfl, rfl, rfl, by decide +kernel, rfl, by decide +kernel, by decide +kernel⟩
abbrev s__law_caught : Stmt := topS 47
theorem sc__law_caught : FnScope ["wording", "way", "found", "e", "odd"] ["wording", "way"] (defScope s__law_caught) := ⟨rfl, rfl, rfl, by decide +kernel, rfl, by decide +kernel, by decide +kernel⟩

/-! ### rules around exceptions -/
section
variable {X : Cx} {CX : CXT} {k : Nat} {f : Addr} {fd : FuncData} {ps ks : List Str} {sp : Sp} {E : L2.St → XK} {x : Str} {p pos : Pos} {kws : List Keyword} {tk : TA}
def tCallSK (sp : Sp) (E : L2.St → XK) (tk : TA) : TE := fun σ H Q => tk σ H fun zs H1 => sp zs H1 Q (E σ)
/-- f(k = v, ..), what is raised wished for at the caller's slots -/
theorem pe_callSK (F : FnOk X.prog X.w X.K X.mg X.base CX k f fd ps sp) (hr : Room k X.A) (hg : Gl X x) (hm : X.mg x = some (.ref f)) (hk : PySem.W.keepIn X.K (.ref f) = true)
    (hb : ∀ (s : Shared) (ws : List Value), ws.length = ps.length → BindsTo s fd ⟨[], ks.zip ws⟩ (ps.zip ws)) (hx : ∀ σ, PassesAt CX X σ (E σ))
    (hkw : PK X kws tk) (hall : (backToKw pos (keywordEach kws X.env)).all (·.1.isSome) = true := by rfl) (hks : (backToKw pos (keywordEach kws X.env)).filterMap (·.1) = ks := by rfl)
    (hdb : (x == ("__debug__" : Str)) = false := by decide) (hpl : ((backTo pos (starEach [] X.env)).any (·.1) || (backToKw pos (keywordEach kws X.env)).any (·.1.isNone)) = false := by rfl) :
    PE X (.Call (.Name x p) [] kws pos) (tCallSK sp E tk) := by
  constructor
  intro pins s σ H Q I h
  refine wpAny_Call_Name_kw (ld_glob I hg hm ?_ hdb)
  apply PySem.W.callWith_KW0 (h₀ := X.base) I.ok.mod.kin hk hall _ hpl
  refine wpAny_mono (hkw.run pos pins s σ H _ I h) (fun ws s1 hq => ?_) (fun _ _ z => z)
  obtain ⟨zs, H1, I1, rz, q⟩ := hq
  rw [hks]
  have hl : ws.length = ps.length := by rw [← rz.length]; exact F.len _ _ _ _ q
  exact ⟨I1.kIn, wpAny_call (codeAny_mono (F.run X.A X.stack s1 H1 ⟨[], ks.zip ws⟩ ws zs Q (E σ) hr I1.env0 (hb s1 ws hl) rz q) fun r s2 hr2 => match r, hr2 with
    | .error e, hr2 => hx σ pins H1 s1 e s2 I1 hr2
    | .ok (.ret u), hr2 => I1.after hr2
    | .ok .next, hr2 => False.elim hr2
    | .ok .brk, hr2 => False.elim hr2
    | .ok .cont, hr2 => False.elim hr2)⟩
/-- what the class of a caught error must say for isinstance -/
structure IsX (K : PySem.W.Frag) (D : Addr) : Prop where
  hc : (PySem.W.clsIn K D).isSome = true
  ga : PySem.W.findIn K (.ref D) "__getattribute__" = some (some (.builtin "BaseException.__getattribute__"))
  gt : PySem.W.findIn K (.ref D) "__getattr__" = some none
  su : PySem.W.subIn K (.ref D) (.type "BaseException") = some true
  ca : PySem.W.findIn K (.ref D) "__class__" = some (some (.builtin "object.__class__"))
  gs : PySem.W.specialIn K (.builtin "object.__class__") "__get__" = some (some (.builtin "getset_descriptor.__get__"))
  tk : PySem.W.takesIn K (.builtin "object.__class__") = some true
  mo : PySem.W.mroIn K D (.type "object") = some true
def rIsX (K : PySem.W.Frag) (a : Addr) (cls : Value) (d : Option Addr) : List V → Hp → VK → Prop := fun xs H Q => ∃ (D dd : Addr) (fs : List (Str × V)) (c : V) (cv : Value) (b : Bool), xs = [.ref a, c] ∧ cls = .ref D ∧ d = some dd ∧ IsX K D ∧ H dd = some (.xd fs) ∧ ClsV c cv ∧ PySem.W.kitOne K (.ref D) cv = some b ∧ Q (.bl b) H
def rIsXT (K : PySem.W.Frag) (a : Addr) (cls : Value) (d : Option Addr) : List V → Hp → VK → Prop := fun xs H Q => ∃ (D dd tp : Addr) (fs : List (Str × V)) (cs : List V) (us : List Value) (b : Bool), xs = [.ref a, .ref tp] ∧ cls = .ref D ∧ d = some dd ∧ IsX K D ∧ H dd = some (.xd fs) ∧ H tp = some (.tup cs) ∧ Paired ClsV cs us ∧ PySem.W.kitAny K (.ref D) us = some b ∧ Q (.bl b) H
theorem inst_x {a D dd : Addr} {oe : Obj} {pn pins : List (Addr × Obj)} {s : Shared} {σ : L2.St} {H : Hp} {fs : List (Str × V)} (I : L2.Inv (X.suite a ((a, oe) :: pn)) pins σ H s) (hz : Zc (.ref D) (some dd) oe) (hf : ∃ vs, oe.data = .fields vs) (hd : H dd = some (.xd fs)) : ∃ od, PySem.W.InstAt s.heap a oe D (some od) := by
  obtain ⟨hget, _⟩ := I.pin (a, oe) (List.mem_append.mpr (Or.inl List.mem_cons_self))
  have hx : ObjOk X.prog X.w H s.heap dd (.xd fs) := I.hok dd _ hd
  obtain ⟨mA, hns, _⟩ := hx
  obtain ⟨od, ho, _⟩ := lookIn_ns hns
  obtain ⟨vs, hv⟩ := hf
  exact ⟨od, hget, hz.1, by unfold PySem.W.notCls; rw [hv], by rw [hz.2]; exact ho⟩
theorem call_isX {a : Addr} {oe : Obj} {cls : Value} {d : Option Addr} {pn : List (Addr × Obj)} (hz : Zc cls d oe) (hf : ∃ vs, oe.data = .fields vs) : CallR (X.suite a ((a, oe) :: pn)) (.builtin "isinstance") (rIsX X.K a cls d) := by
  intro pins s σ H xs us Q I r h
  obtain ⟨D, dd, fs, c, cv, b, rfl, rfl, rfl, T, hd, hc, e, q⟩ := h
  obtain ⟨u1, u2, rfl, r1, r2⟩ := vals2 r
  cases r1
  rw [hc.eq r2]
  obtain ⟨od, J⟩ := inst_x I hz hf hd
  exact PySem.W.kia_one (PySem.W.kitx_exc (od := some od) T.hc T.ga T.gt T.su T.ca T.gs T.tk T.mo) I.kIn J e (by intro z; cases z) fun tk => ⟨.bl b, H, I.tok tk, rfl, q⟩
theorem call_isXT {a : Addr} {oe : Obj} {cls : Value} {d : Option Addr} {pn : List (Addr × Obj)} (hz : Zc cls d oe) (hf : ∃ vs, oe.data = .fields vs) : CallR (X.suite a ((a, oe) :: pn)) (.builtin "isinstance") (rIsXT X.K a cls d) := by
  intro pins s σ H xs us Q I r h
  obtain ⟨D, dd, tp, fs, cs, ws, b, rfl, rfl, rfl, T, hd, hT, hc, e, q⟩ := h
  obtain ⟨u1, u2, rfl, r1, r2⟩ := vals2 r
  cases r1
  cases (show u2 = Value.ref tp from r2)
  obtain ⟨od, J⟩ := inst_x I hz hf hd
  obtain ⟨_, its, rv, o, h1, h2, n, h3⟩ := (show ObjOk X.prog X.w H s.heap tp (.tup cs) from I.hok tp _ hT)
  have e3 := ClsV.all hc rv
  subst e3
  obtain ⟨oc, od', dt, sl⟩ := o
  dsimp only at h2 h3
  subst h2 h3
  exact PySem.W.kia_tup (PySem.W.kitx_exc (od := some od) T.hc T.ga T.gt T.su T.ca T.gs T.tk T.mo) I.kIn J h1 e (by intro z; cases z) fun tk => ⟨.bl b, H, I.tok tk, rfl, q⟩
end
/-- what the text says of its errors -/
structure XTxt (K : PySem.W.Frag) (mg : Str → Option Value) (CU CR CN CD fI : Addr) : Prop where
  gU : mg "Unreadable" = some (.ref CU)
  gR : mg "RunError" = some (.ref CR)
  gN : mg "InvalidName" = some (.ref CN)
  gD : mg "InvalidDivisor" = some (.ref CD)
  ox : OexC K CU
  noV : PySem.W.findIn K (.ref CU) "value" = some none
  iC : PySem.W.findIn K (.ref CU) "__init__" = some (some (.ref fI))
  tI : PySem.W.typeIn K (.ref fI) = some (.type "function")
  te : PySem.W.exmOne K (.ref CU) (.ref CR) = some true
  xf : XfC K CU
  is : IsX K CU
  kU : PySem.W.kitOne K (.ref CU) (.ref CU) = some true
  kT : PySem.W.kitAny K (.ref CU) [.ref CN, .ref CD] = some false
section
variable {P : Program} {w : World} {K : PySem.W.Frag} {mg : Str → Option Value} {base : Heap} {C f CU CR CN CD fI : Addr} {fd fdI : FuncData}
def spRInit (CU : Addr) : Sp := fun vs H Q _ => ∃ (a : Addr) (v : V), vs = [.ref a, v] ∧ H a = some (exo a CU none) ∧ ∀ dx, H dx = none → dx ≠ a → Q .non (upd (upd H dx (exd dx [("value", v)])) a (exo a CU (some dx)))
theorem ok_rinit (F : Fun K "__init__" "RunError.__init__" s_RunError___init__ f fd) (X : XTxt K mg CU CR CN CD fI) : FnOk P w K mg base L2.CX0 1 f fd ["self", "value"] (spRInit CU) := by
  refine F.ok sc_RunError___init__ (fun vs H Q E h => ?_) (fun cdv A outer s H vs Q E hr h => ?_)
  · obtain ⟨a, v, rfl, _⟩ := h
    rfl
  obtain ⟨a, v, rfl, ha, k⟩ := h
  refine ⟨_, pss_one (ps_ost (pv 0) (pv 1)), ?_⟩
  exact ⟨_, rfl, _, rfl, a, CU, rfl, X.ox, X.noV, .inl ⟨ha, fun dx n ne => k dx n ne⟩⟩
/-- read_value: a value, or an Unreadable with the text -/
def spRead (C CU : Addr) : Sp := fun vs H Q E => ∃ l : Cs, vs = [vS l] ∧ l.length ≤ 50000 ∧ (∀ t, vot l = some t → ∀ v H', Ex H H' → ValAt C H' t v → Q v H') ∧
  (vot l = none → ∀ d H', Ex H H' → H' d = some (.xd [("value", vS l)]) → E (.ref CU) (some d) H')
theorem ok_read_value (F : Fun K "read_value" "read_value" s_read_value f fd) (X : XTxt K mg CU CR CN CD fI) (G : FnOk P w K mg base L2.CX0 1 fI fdI ["self", "value"] (spRInit CU)) (bI : Binds K fdI ["self", "value"] [])
    (c_value_of_text : Cal P w K mg base 20 "value_of_text" (spVot C) []) : FnOk P w K mg base (L2.CX P w) 21 f fd ["text"] (spRead C CU) := by
  refine F.okX sc_read_value (fun vs H Q E h => ?_) (fun cdv A outer s H vs Q E hr h => ?_)
  · obtain ⟨l, rfl, _⟩ := h
    rfl
  obtain ⟨l, rfl, hz, k1, k2⟩ := h
  refine ⟨_, pss_cons (ps_set (i := 1) sc_read_value.nd rfl (Or.inl rfl) (C8.pe_c c_value_of_text hr (by omega) rfl (pa_cons (pv 0) pa_nil)))
    (pss_cons (ps_if (pt_cmpR op_isN (pv 1) pe_non (nomark _)) (pss_one (ps_raise rfl (takes_of rfl rfl rfl rfl) (pmk_oex X.ox X.iC X.tI G (hr.mono (by decide)) bI .nil L2.pass0 rfl X.gU (pa_cons (pv 0) pa_nil)))) pss_nil)
    (pss_one (ps_ret (pv 1)))), ?_⟩
  refine ⟨_, rfl, l, rfl, hz, fun v H1 e1 hv => ?_⟩
  have hn := hv.non
  refine ⟨_, rfl, rfl, _, rfl, ?_⟩
  rw [hn]
  cases ho : vot l with
  | none =>
    refine iteT ⟨_, rfl, by show 1 ≤ 1000; decide, fun a ha => ?_⟩
    refine ⟨a, vS l, rfl, upd_same, fun dx hdx ne => ?_⟩
    have hdx0 : H1 dx = none := by rw [upd_ne ne] at hdx; exact hdx
    refine ⟨rfl, dx, _, upd_same, by rw [upd_ne ne, upd_same], hdx0, ?_⟩
    refine k2 ho dx _ (fun b o hb => ?_) upd_same
    have hb1 := e1 _ _ hb
    have n1 : b ≠ dx := ne_of_none hb1 hdx0
    have n2 : b ≠ a := ne_of_none hb1 ha
    rw [upd_ne n1, del_ne n2, upd_ne n2, upd_ne n1, upd_ne n2]
    exact hb1
  | some t =>
    rw [ho] at hv
    exact iteF ⟨_, rfl, k1 t ho _ _ e1 hv⟩
end
end E60
namespace E60
open PySem L2 Evl SX
section
variable {P : Program} {w : World} {K : PySem.W.Frag} {mg : Str → Option Value} {base : Heap} {C f CU CR CN CD fI fR : Addr} {fd fdR : FuncData}
/-- the text of what is read, in a list, or the empty list -/
def capt (l : Cs) : List Cs := if (vot l).isSome = true then [l] else []
def spCaught : Sp := fun vs H Q _ => ∃ (l : Cs) (wy : Int), vs = [vS l, .int wy] ∧ l.length ≤ 50000 ∧ ∀ p H', Ex H H' → H p = none → H' p = some (.lst ((capt l).map vS)) → Q (.ref p) H'
def tBody (K : PySem.W.Frag) (C CU : Addr) (W : WX) : TS := tAsg (tLst (tCons (tCall (spShow C 13) [] C8.E0 (tCons (tIf (tTest (tOp rEq (tVar 1) (tC (.int 0)))) (tCallS (spRead C CU) (WE W) (tCons (tVar 0) tNil)) (tCallSK (spRead C CU) (WE W) (tCons (tVar 0) tNil))) tNil)) tNil)) (gName 2)
def tSuite (K : PySem.W.Frag) (CU CN CD : Addr) : Addr → Value → Option Addr → TS := fun a cls d =>
  tSeq (tAsg (tCB (rIsXT K a cls d) (tCons (tVar 3) (tCons (tTup (tCons (tC (.ref CN)) (tCons (tC (.ref CD)) tNil))) tNil))) (gName 4))
    (tAsg (tIf (tOr (tB (tVar 4)) (tOr (tNot (tB (tCB (rIsX K a cls d) (tCons (tVar 3) (tCons (tC (.ref CU)) tNil))))) (tTest (tOp rNe (tXf a cls d CU "value" (tVar 3)) (tVar 0))))) (tLst (tCons (tC (.str "odd")) tNil)) (tLst tNil)) (gName 2))
theorem vot_show {l : Cs} {t : Vl} (h : vot l = some t) : showC t = l ∧ Wf t ∧ ht t < 13 := by
  unfold vot at h
  split at h
  · cases h
  · split at h
    · cases h
    · rename_i t' hv
      split at h
      · rename_i hs
        cases h
        exact ⟨hs, vin_wf _ _ _ hv, (vin_ht _ _ _ hv).1⟩
      · cases h
theorem ok_law_caught (F : Fun K "_law_caught" "_law_caught" s__law_caught f fd) (T : Txt K mg C) (X : XTxt K mg CU CR CN CD fI) (G : FnOk P w K mg base (L2.CX P w) 21 fR fdR ["text"] (spRead C CU)) (bR : Binds K fdR ["text"] []) (hmR : mg "read_value" = some (.ref fR)) (kR : PySem.W.keepIn K (.ref fR) = true)
    (kwR : ∀ (s : Shared) (ws : List Value), ws.length = (["text"] : List Str).length → BindsTo s fdR ⟨[], (["text"] : List Str).zip ws⟩ ((["text"] : List Str).zip ws))
    (c_show_value : Cal P w K mg base 13 "show_value" (spShow C 13) []) : FnOk P w K mg base L2.CX0 22 f fd ["wording", "way"] spCaught := by
  refine F.ok sc__law_caught (fun vs H Q E h => ?_) (fun cdv A outer s H vs Q E hr h => ?_)
  · obtain ⟨l, wy, rfl, _⟩ := h
    rfl
  obtain ⟨l, wy, rfl, hz, k⟩ := h
  have hr1 : Room 21 _ := hr
  refine ⟨_, pss_cons (ps_set (i := 2) sc__law_caught.nd rfl (Or.inl rfl) (pe_lst pa_nil))
    (pss_cons (ps_try_as (i := 3) (tb := tBody K C CU) (ts := tSuite K CU CN CD) (Wout := fun _ _ _ _ => False) rfl rfl sc__law_caught.nd rfl rfl ⟨rfl, by decide, Or.inl X.gR⟩ takes0
      (fun W pn xe tk _ => pss_one (ps_set (i := 2) sc__law_caught.nd rfl (Or.inl rfl) (pe_lst (pa_cons (C8.pe_c c_show_value hr (by omega) rfl (pa_cons (pe_ifExp (pt_cmpR op_eq (pv 1) pe_int (nomark _))
        (by exact (pe_callS G hr1 rfl hmR kR bR (fun σ => passAt tk σ) (by exact (pa_cons (pv 0) pa_nil)))) (by exact (pe_callSK (ks := ["text"]) G hr1 rfl hmR kR kwR (fun σ => passAt tk σ) (pk_cons (pv 0) pk_nil)))) pa_nil)) pa_nil))))
      (fun a oe cls d pn hz hf => pss_cons (ps_set (i := 4) sc__law_caught.nd rfl (Or.inl rfl) (by exact (pe_callB (call_isXT hz hf) (by rfl) T.isinstance (by decide +kernel) (pa_cons (pv 3) (pa_cons (pe_tup (pa_cons (C8.pe_gc rfl ⟨_, X.gN, rfl⟩) (pa_cons (C8.pe_gc rfl ⟨_, X.gD, rfl⟩) pa_nil))) pa_nil)))))
        (pss_one (ps_set (i := 2) sc__law_caught.nd rfl (Or.inl rfl) (by exact (pe_ifExp (PW.pt (pw_or (pt_val (pv 4)) (pw_or (pt_not (pt_val (pe_callB (call_isX hz hf) (by rfl) T.isinstance (by decide +kernel) (pa_cons (pv 3) (pa_cons (C8.pe_gc rfl ⟨_, X.gU, rfl⟩) pa_nil))))) (pw_or1 (pt_cmpR op_ne (pe_xf X.xf X.noV hz hf (pv 3)) (pv 0) (nomark _))))))
          (pe_lst (pa_cons pe_str pa_nil)) (pe_lst pa_nil)))))))
    (pss_one (ps_ret (pv 2)))), ?_⟩
  refine ⟨Nat.zero_le _, fun L hL => ?_⟩
  have eL := same_new hL (.lst [])
  have lk : ([(("value" : Str), vS l)] : List (Str × V)).lookup ("value" : Str) = some (vS l) := lk_eq
  have core : ∀ (Qc : VK) (Ec : XK), (∀ t, vot l = some t → ∀ v H', Ex (upd H L (.lst [])) H' → ValAt C H' t v → Qc v H') →
      (vot l = none → ∀ d H', Ex (upd H L (.lst [])) H' → H' d = some (.xd [("value", vS l)]) → Ec (.ref CU) (some d) H') → spRead C CU [vS l] (upd H L (.lst [])) Qc Ec := fun Qc Ec h1 h2 => ⟨l, rfl, hz, h1, h2⟩
  refine ⟨_, rfl, rfl, _, rfl, ite2 (fun _ => ⟨_, rfl, core _ _ ?_ ?_⟩) (fun _ => ⟨_, rfl, core _ _ ?_ ?_⟩)⟩
  · intro t ht v H' e hv
    obtain ⟨hs, hw, hh⟩ := vot_show ht
    refine ⟨t, v, rfl, hv, hh, by rw [hs]; exact hz, wf_ok hw, fun H2 e2 => ⟨by show 1 ≤ sizeLine; decide, fun p hp => ⟨_, rfl, ?_⟩⟩⟩
    refine k p _ (eL.trans (e.trans (e2.trans (same_new hp _)))) (fresh_back (eL.trans (e.trans e2)) hp) ?_
    rw [upd_same, hs]
    unfold capt
    rw [if_pos (by rw [ht]; rfl)]; rfl
  · intro ho d H' e hd
    refine ⟨true, X.te, fun _ a ha => ?_, fun q => nomatch q⟩
    refine ⟨_, rfl, by show 2 ≤ sizeLine; decide, fun tp htp => ?_⟩
    have et := same_new htp (.tup [.ref CN, .ref CD])
    have hd' := et _ _ hd
    refine ⟨CU, d, tp, _, _, [.ref CN, .ref CD], false, rfl, rfl, rfl, X.is, hd', upd_same, .cons (.own CN) (.cons (.own CD) .nil), X.kT, ?_⟩
    refine ⟨_, rfl, _, rfl, iteF ?_⟩
    refine ⟨_, rfl, CU, d, _, .ref CU, .ref CU, true, rfl, rfl, rfl, X.is, hd', .own CU, X.kU, _, rfl, iteF ?_⟩
    refine ⟨_, rfl, rfl, rfl, d, _, _, rfl, hd', lk, _, rfl, rfl, _, rfl, ?_⟩
    rw [decide_eq_true rfl]
    refine iteF ⟨Nat.zero_le _, fun p hp => ⟨_, rfl, ?_⟩⟩
    refine k p _ (eL.trans (e.trans (et.trans (same_new hp _)))) (fresh_back (eL.trans (e.trans et)) hp) ?_
    rw [upd_same]
    unfold capt
    rw [if_neg (by rw [ho]; exact Bool.false_ne_true)]; rfl
  · intro t ht v H' e hv
    obtain ⟨hs, hw, hh⟩ := vot_show ht
    refine ⟨t, v, rfl, hv, hh, by rw [hs]; exact hz, wf_ok hw, fun H2 e2 => ⟨by show 1 ≤ sizeLine; decide, fun p hp => ⟨_, rfl, ?_⟩⟩⟩
    refine k p _ (eL.trans (e.trans (e2.trans (same_new hp _)))) (fresh_back (eL.trans (e.trans e2)) hp) ?_
    rw [upd_same, hs]
    unfold capt
    rw [if_pos (by rw [ht]; rfl)]; rfl
  · intro ho d H' e hd
    refine ⟨true, X.te, fun _ a ha => ?_, fun q => nomatch q⟩
    refine ⟨_, rfl, by show 2 ≤ sizeLine; decide, fun tp htp => ?_⟩
    have et := same_new htp (.tup [.ref CN, .ref CD])
    have hd' := et _ _ hd
    refine ⟨CU, d, tp, _, _, [.ref CN, .ref CD], false, rfl, rfl, rfl, X.is, hd', upd_same, .cons (.own CN) (.cons (.own CD) .nil), X.kT, ?_⟩
    refine ⟨_, rfl, _, rfl, iteF ?_⟩
    refine ⟨_, rfl, CU, d, _, .ref CU, .ref CU, true, rfl, rfl, rfl, X.is, hd', .own CU, X.kU, _, rfl, iteF ?_⟩
    refine ⟨_, rfl, rfl, rfl, d, _, _, rfl, hd', lk, _, rfl, rfl, _, rfl, ?_⟩
    rw [decide_eq_true rfl]
    refine iteF ⟨Nat.zero_le _, fun p hp => ⟨_, rfl, ?_⟩⟩
    refine k p _ (eL.trans (e.trans (et.trans (same_new hp _)))) (fresh_back (eL.trans (e.trans et)) hp) ?_
    rw [upd_same]
    unfold capt
    rw [if_neg (by rw [ho]; exact Bool.false_ne_true)]; rfl
end
end E60
namespace E60
open PySem L2 Evl SX
abbrev s__law_right : Stmt := topS 50
theorem sc__law_right : FnScope ["pool", "words_here", "wording", "turn", "bent"] ["pool"] (defScope s__law_right) := ⟨rfl, rfl, rfl, by decide +kernel, rfl, by decide +kernel, by decide +kernel⟩
abbrev s_law : Stmt := topS 51
theorem sc_law : FnScope ["script", "spot", "pool", "turn"] ["script"] (defScope s_law) := ⟨rfl, rfl, rfl, by decide +kernel, rfl, by decide +kernel, by decide +kernel⟩

theorem ht_sz : ∀ t : Vl, ht t ≤ sz t
  | .nm _ => Nat.le_refl _
  | .nw _ => Nat.le_refl _
  | .ps => Nat.le_refl _
  | .num _ => Nat.le_refl _
  | .neg v => Nat.succ_le_succ (ht_sz v)
  | .bin _ a b => by
    have := ht_sz a
    have := ht_sz b
    show max (ht a) (ht b) + 1 ≤ sz a + sz b + 1
    omega
theorem show_len : ∀ t : Vl, Wf t → (showC t).length ≤ 29 * sz t + 22
  | .nm s, h => by
    have := nm_len (show isNm s = true from h)
    show s.length ≤ 29 * 0 + 22
    omega
  | .nw s, h => by
    have := nm_len (show isNm s = true from h)
    show s.length + 1 ≤ 29 * 0 + 22
    omega
  | .ps, _ => by decide
  | .num n, h => by
    have h' : (TL.numL n.natAbs).length ≤ 20 := h
    show (intC n).length ≤ 29 * 0 + 22
    unfold intC
    split
    · rw [List.length_cons]; omega
    · omega
  | .neg v, h => by
    have := show_len v h
    show (showC v).length + 1 ≤ 29 * (sz v + 1) + 22
    omega
  | .bin g a b, ⟨hg, ha, hb, _⟩ => by
    have := show_len a ha
    have := show_len b hb
    have := (sgs_no hg).2
    show (40 :: (showC a ++ 32 :: (g ++ 32 :: (showC b ++ [41])))).length ≤ 29 * (sz a + sz b + 1) + 22
    simp only [List.length_cons, List.length_append, List.length_nil]
    omega
theorem show_cok : ∀ t : Vl, Wf t → Cok (showC t)
  | .nm s, h => nm_cok h
  | .nw s, h => fun c hc => by
    rcases List.mem_cons.mp hc with e | e
    · omega
    · exact nm_cok h c e
  | .ps, _ => fun c hc => by rw [List.mem_singleton.mp hc]; decide
  | .num n, _ => fun c hc => by
    obtain ⟨_, _, _, _, h⟩ := intC_cases n
    have := h c hc
    omega
  | .neg v, h => fun c hc => by
    rcases List.mem_cons.mp hc with e | e
    · omega
    · exact show_cok v h c e
  | .bin g a b, ⟨hg, ha, hb, _⟩ => fun c hc => by
    have hgc : ∀ g ∈ sgs, ∀ c ∈ g, c < 1114112 := by decide
    have hc' : c ∈ 40 :: (showC a ++ 32 :: (g ++ 32 :: (showC b ++ [41]))) := hc
    simp only [List.mem_cons, List.mem_append, List.not_mem_nil, or_false] at hc'
    rcases hc' with e | e | e | e | e | e | e
    · omega
    · exact show_cok a ha c e
    · omega
    · exact hgc g hg c e
    · omega
    · exact show_cok b hb c e
    · omega
section
variable {P : Program} {w : World} {K : PySem.W.Frag} {mg : Str → Option Value} {base : Heap} {C f : Addr} {fd : FuncData}
/-- the law's one turn: always True -/
def spRight : Sp := fun vs H Q _ => ∃ (a : Addr) (n : Nat), vs = [.ref a] ∧ n + 1000 < 2 ^ 40 ∧ PoolAt a n H ∧ ∀ H', Go a H H' → PoolAt a (n + 200) H' → Q (.bl true) H'
theorem ok_law_right (F : Fun K "_law_right" "_law_right" s__law_right f fd) (T : Txt K mg C) (c__law_draw : Cal P w K mg base 1 "_law_draw" spDraw []) (c__law_long : Cal P w K mg base 8 "_law_long" (spLong 6) []) (c__law_value : Cal P w K mg base 18 "_law_value" (spLV C 6) [])
    (c_show_value : Cal P w K mg base 13 "show_value" (spShow C 13) []) (c__law_bent : Cal P w K mg base 3 "_law_bent" spBent []) (c__law_caught : Cal P w K mg base 22 "_law_caught" spCaught []) (c__law_is_value : Cal P w K mg base 16 "_law_is_value" spIsVal []) :
    FnOk P w K mg base L2.CX0 23 f fd ["pool"] spRight := by
  refine F.ok sc__law_right (fun vs H Q E h => ?_) (fun cdv A outer s H vs Q E hr h => ?_)
  · obtain ⟨a, n, rfl, _⟩ := h
    rfl
  obtain ⟨a, n, rfl, hn, hp, k⟩ := h
  refine ⟨_, (pss_cons (ps_set (i := 1) sc__law_right.nd rfl (Or.inl rfl) (pe_lst (pa_cons pe_str (pa_cons pe_str (pa_cons pe_str pa_nil))))) (pss_cons (ps_set (i := 2) sc__law_right.nd rfl (Or.inl rfl) (C8.pe_c c_show_value hr (by omega) rfl (pa_cons (C8.pe_c c__law_value hr (by omega) rfl (pa_cons (C8.pe_c c__law_long hr (by omega) rfl (pa_cons (pv 0) (pa_cons (pv 1) (pa_cons (pv 1) (pa_cons (C8.pe_c c__law_draw hr (by omega) rfl (pa_cons (pv 0) (pa_cons pe_int pa_nil))) pa_nil))))) (pa_cons pe_int pa_nil))) pa_nil))) (pss_cons (ps_for PassesOwn.never rfl (pi_range1 (by rfl) T.range (pa_cons pe_int pa_nil)) (pg_name (i := 3) sc__law_right.nd rfl (Or.inl rfl)) (pss_cons (ps_set (i := 4) sc__law_right.nd rfl (Or.inl rfl) (C8.pe_c c__law_bent hr (by omega) rfl (pa_cons (pv 0) (pa_cons (pv 2) pa_nil)))) (pss_one (ps_if (pt_cmpR (op_neD hr.units) (C8.pe_c c__law_caught hr (by omega) rfl (pa_cons (pv 4) (pa_cons (C8.pe_c c__law_draw hr (by omega) rfl (pa_cons (pv 0) (pa_cons pe_int pa_nil))) pa_nil))) (pe_ifExp (pt_val (C8.pe_c c__law_is_value hr (by omega) rfl (pa_cons (pv 4) pa_nil))) (pe_lst (pa_cons (pv 4) pa_nil)) (pe_lst pa_nil)) (nomark _)) (pss_one (ps_ret pe_bl)) pss_nil)))) (pss_one (ps_ret pe_bl))))), ?_⟩
  refine ⟨by show 3 ≤ sizeLine; decide, fun ln hln => ?_⟩
  have eL := same_new hln (.lst [.str "a", .str "mod", .str "on"])
  have hnm : NmsAt ln a [[97], [109, 111, 100], [111, 110]] (upd H ln (.lst [.str "a", .str "mod", .str "on"])) := by
    refine ⟨?_, pool_new hp hln, by decide, by decide, by decide⟩
    rw [upd_same, show Str.ofString "a" = S [97] from by decide +kernel, show Str.ofString "mod" = S [109, 111, 100] from by decide +kernel, show Str.ofString "on" = S [111, 110] from by decide +kernel]
    rfl
  refine ⟨_, rfl, _, rfl, _, rfl, _, rfl, a, 6, n, rfl, by decide, by decide, by omega, hp.ex eL, fun r H1 r0 r1 g1 p1 => ?_⟩
  obtain ⟨rs, rfl⟩ := Int.eq_ofNat_of_zero_le r0
  refine ⟨a, ln, _, rs, n + 1, rfl, by omega, by omega, hnm.go g1, by omega, p1, fun v H2 t g2 p2 hv hw hs => ?_⟩
  have hht := ht_sz t
  refine ⟨t, v, rfl, hv, hw, by omega, fun v2 H3 e3 hv2 => ?_⟩
  have hlen := show_len t hw
  refine ⟨t, v2, rfl, hv2, by omega, by omega, wf_ok hw, fun H4 e4 => ?_⟩
  have gA : Go a H H4 := (Go.of eL).trans (g1.trans (g2.trans (Go.of (e3.trans e4))))
  have pA : PoolAt a (n + 60) H4 := ((p2.ex e3).ex e4).mono (by omega)
  have hl180 : (showC t).length ≤ 180 := by omega
  have hcok := show_cok t hw
  generalize showC t = l at hl180 hcok ⊢
  refine ⟨6, rfl, by decide, by decide, for_range (lo := 0) (n := 6) (fun i σ' H' => ∃ v1 v2, σ' = [some (.ref a), some (.ref ln), some (vS l), v1, v2] ∧ Go a H H' ∧ PoolAt a (n + 60 + 20 * i) H') ⟨none, none, rfl, gA, pA⟩ ?_ ?_⟩
  · rintro i σ' H' hi ⟨v1, v2, rfl, g5, p5⟩
    refine ⟨_, rfl, _, rfl, a, l, n + 60 + 20 * i, rfl, hl180, hcok, by omega, p5, fun b H6 g6 p6 ⟨bl, hb, hbl, hbc⟩ => ?_⟩
    subst hb
    refine ⟨_, rfl, _, rfl, a, 2, n + 60 + 20 * i + 10, rfl, by decide, by decide, by omega, p6, fun wy H7 w0 w1 g7 p7 => ?_⟩
    refine ⟨bl, wy, rfl, by omega, fun q1 H8 e8 hq1 h8 => ?_⟩
    refine ⟨_, rfl, bl, rfl, by omega, hbc, fun H9 e9 => ⟨_, rfl, ?_⟩⟩
    have gZ : Go a H H9 := g5.trans (g6.trans (g7.trans (Go.of (e8.trans e9))))
    have pZ : PoolAt a (n + 60 + 20 * i + 11) H9 := (p7.ex e8).ex e9
    have hcap : ∀ x ∈ capt bl, Cok x := fun x hx => by
      unfold capt at hx
      split at hx
      · rw [List.mem_singleton.mp hx]; exact hbc
      · cases hx
    cases hvb : (vot bl).isSome with
    | true =>
      refine iteT ⟨_, rfl, by show 1 ≤ sizeLine; decide, fun q2 hq2 => ?_⟩
      have e10 := same_new hq2 (.lst [vS bl])
      have h10 : upd H9 q2 (.lst [vS bl]) q2 = some (.lst ((capt bl).map vS)) := by rw [upd_same]; unfold capt; rw [if_pos hvb]; rfl
      refine rv_neL (a := capt bl) (b := capt bl) hcap hcap (e10 _ _ (e9 _ _ h8)) h10 _ (Ex.refl _) _ fun H11 e11 => ?_
      rw [decide_eq_true rfl]
      exact ⟨_, rfl, iteF ⟨_, _, rfl, gZ.trans (Go.of (e10.trans e11)), ((pZ.ex e10).ex e11).mono (by omega)⟩⟩
    | false =>
      refine iteF ⟨Nat.zero_le _, fun q2 hq2 => ?_⟩
      have e10 := same_new hq2 (.lst [])
      have h10 : upd H9 q2 (.lst []) q2 = some (.lst ((capt bl).map vS)) := by rw [upd_same]; unfold capt; rw [if_neg (by rw [hvb]; exact Bool.false_ne_true)]; rfl
      refine rv_neL (a := capt bl) (b := capt bl) hcap hcap (e10 _ _ (e9 _ _ h8)) h10 _ (Ex.refl _) _ fun H11 e11 => ?_
      rw [decide_eq_true rfl]
      exact ⟨_, rfl, iteF ⟨_, _, rfl, gZ.trans (Go.of (e10.trans e11)), ((pZ.ex e10).ex e11).mono (by omega)⟩⟩
  · rintro σ' H' ⟨v1, v2, rfl, g5, p5⟩
    exact k _ g5 (p5.mono (by omega))
end
end E60
namespace E60
open PySem L2 Evl SX
section
variable {P : Program} {w : World} {K : PySem.W.Frag} {mg : Str → Option Value} {base : Heap} {C f : Addr} {fd : FuncData}
theorem sqL_ex {H H' : Hp} {a : Addr} {xs : List V} (h : SqL K H a xs) (e : Ex H H') : SqL K H' a xs :=
  h.elim (fun h => .inl (h.elim (fun q => .inl (e _ _ q)) fun ⟨o, q⟩ => .inr ⟨o, e _ _ q⟩)) .inr
/-- the pool made new -/
def spPool : Sp := fun vs H Q _ => ∃ (sc : Addr) (ns : List Int) (s : Nat), vs = [.ref sc, .int s] ∧ SqL K H sc (ns.map V.int) ∧ s < 100 ∧ ns.length ≤ 63 ∧ ∀ p H', Ex H H' → H p = none → PoolAt p 0 H' → Q (.ref p) H'
theorem ok_law_pool (F : Fun K "_law_pool" "_law_pool" s__law_pool f fd) (T : Txt K mg C) : FnOk P w K mg base L2.CX0 1 f fd ["script", "spot"] (spPool (K := K)) := by
  refine F.ok sc__law_pool (fun vs H Q E h => ?_) (fun cdv A outer s H vs Q E hr h => ?_)
  · obtain ⟨sc, ns, s, rfl, _⟩ := h
    rfl
  obtain ⟨sc, ns, s, rfl, hs, hs1, hl, k⟩ := h
  refine ⟨_, (pss_cons (ps_set (i := 2) sc__law_pool.nd rfl (Or.inl rfl) pe_int) (Evl.pss_cut (ps_if (pt_cmpR op_lt (pv 1) (pe_callB call_len_seq (by rfl) T.len (by decide +kernel) (pa_cons (pv 0) pa_nil)) (nomark _)) (pss_one (ps_set (i := 2) sc__law_pool.nd rfl (Or.inl rfl) (pe_ix ix_list (pv 0) (pv 1) (fun _ _ => rfl)))) pss_nil) (pss_one (ps_ret (pe_lst (pa_cons (pe_callB (call_max2 rfl) (by rfl) T.max (by decide +kernel) (pa_cons pe_int (pa_cons (pe_op op_sub (pe_callB call_abs (by rfl) T.abs (by decide +kernel) (pa_cons (pv 2) pa_nil)) (pe_op op_powW pe_int pe_int)) pa_nil))) (pa_cons (pe_op op_add (pe_op op_modN (pe_callTy call_int1 (by rfl) T.int (by decide +kernel) (pa_cons (pv 2) pa_nil)) pe_int) (pe_op op_mulW pe_int (pe_op op_add (pv 1) pe_int))) (pa_cons pe_int pa_nil)))))))), ?_⟩
  refine q_cut (M := fun σ' H' => ∃ x : Int, σ' = [some (.ref sc), some (.int (s : Int)), some (.int x)] ∧ H' = H) ?_ ?_
  · refine ⟨_, rfl, _, rfl, sc, _, rfl, .inl hs, _, _, rfl, rfl, _, rfl, ?_⟩
    refine ite2 (fun q => ?_) (fun q => ⟨_, rfl, rfl⟩)
    have hlt : (s : Int) < ((ns.map V.int).length : Int) := of_decide_eq_true q
    rw [List.length_map] at hlt
    have hlt' : s < ns.length := by omega
    refine ⟨_, rfl, _, rfl, sc, _, _, _, rfl, rfl, hs, atI_nat (by rw [List.getElem?_map, List.getElem?_eq_getElem hlt']; rfl), ?_⟩
    exact ⟨_, rfl, rfl⟩
  · rintro σ' H' ⟨x, rfl, rfl⟩
    refine ⟨_, rfl, _, rfl, _, _, rfl, rfl, ?_⟩
    refine ⟨⟨by decide, by decide, by decide⟩, _, _, rfl, rfl, _, _, rfl, ?_⟩
    refine ⟨_, rfl, .inl ⟨_, rfl, _, _, rfl, rfl, (show (2305843009213693951 : Int) ≠ 0 by decide), ?_⟩⟩
    have r1a := Int.fmod_nonneg_of_pos x (show (0 : Int) < 2305843009213693951 by decide)
    have r1b := Int.fmod_lt_of_pos x (show (0 : Int) < 2305843009213693951 by decide)
    refine ⟨_, rfl, _, _, rfl, rfl, _, _, rfl, rfl, wide_mul (a := 24) (b := 41) (by decide) (by omega) (by decide) (by decide) (by decide), _, _, rfl, rfl, (by show 3 ≤ sizeLine; decide), fun p hp => ?_⟩
    refine k _ _ (same_new hp _) hp ⟨_, _, 0, upd_same, ?_, ?_, by omega, by omega⟩
    · omega
    · have pow70 : (2 : Int) ^ 70 = 1180591620717411303424 := by decide
      omega
/-- the law itself -/
def spLaw : Sp := fun vs H Q _ => ∃ (a : Addr) (ns : List Int), vs = [.ref a] ∧ SqL K H a (ns.map V.int) ∧ ns.length ≤ 63 ∧ ∀ H', Q (.bl true) H'
theorem ok_law (F : Fun K "law" "law" s_law f fd) (T : Txt K mg C) (c__law_pool : Cal P w K mg base 1 "_law_pool" (spPool (K := K)) []) (c__law_right : Cal P w K mg base 23 "_law_right" spRight []) :
    FnOk P w K mg base L2.CX0 24 f fd ["script"] (spLaw (K := K)) := by
  refine F.ok sc_law (fun vs H Q E h => ?_) (fun cdv A outer s H vs Q E hr h => ?_)
  · obtain ⟨a, ns, rfl, _⟩ := h
    rfl
  obtain ⟨a, ns, rfl, hs, hl, k⟩ := h
  refine ⟨_, (pss_cons (ps_for PassesOwn.never rfl (pi_range1 (by rfl) T.range (pa_cons (pe_callB (call_max2 rfl) (by rfl) T.max (by decide +kernel) (pa_cons pe_int (pa_cons (pe_callB (call_min2 rfl) (by rfl) T.min (by decide +kernel) (pa_cons pe_int (pa_cons (pe_callB call_len_seq (by rfl) T.len (by decide +kernel) (pa_cons (pv 0) pa_nil)) pa_nil))) pa_nil))) pa_nil)) (pg_name (i := 1) sc_law.nd rfl (Or.inl rfl)) (pss_cons (ps_set (i := 2) sc_law.nd rfl (Or.inl rfl) (C8.pe_c c__law_pool hr (by omega) rfl (pa_cons (pv 0) (pa_cons (pv 1) pa_nil)))) (pss_one (ps_for PassesOwn.never rfl (pi_range1 (by rfl) T.range (pa_cons pe_int pa_nil)) (pg_name (i := 3) sc_law.nd rfl (Or.inl rfl)) (pss_one (ps_if (pt_not (pt_val (C8.pe_c c__law_right hr (by omega) rfl (pa_cons (pv 2) pa_nil)))) (pss_one (ps_ret pe_bl)) pss_nil)))))) (pss_one (ps_ret pe_bl))), ?_⟩
  refine ⟨_, rfl, a, _, rfl, .inl hs, _, _, rfl, _, _, rfl, ?_⟩
  have hN : ∃ N : Nat, (if (if ((ns.map V.int).length : Int) < 8 then ((ns.map V.int).length : Int) else 8) > 1 then (if ((ns.map V.int).length : Int) < 8 then ((ns.map V.int).length : Int) else 8) else 1) = (N : Int) ∧ N ≤ 8 := by
    generalize (ns.map V.int).length = z
    by_cases h1 : (z : Int) < 8
    · rw [if_pos h1]
      by_cases h2 : (z : Int) > 1
      · exact ⟨z, if_pos h2, by omega⟩
      · exact ⟨1, if_neg h2, by omega⟩
    · rw [if_neg h1]
      exact ⟨8, rfl, by omega⟩
  obtain ⟨N, eN, hN⟩ := hN
  refine ⟨(N : Int), by rw [eN], by omega, by omega, ?_⟩
  rw [Int.toNat_natCast]
  refine for_range (lo := 0) (n := N) (fun i σ' H' => ∃ v1 v2 v3, σ' = [some (.ref a), v1, v2, v3] ∧ Ex H H') ⟨none, none, none, rfl, Ex.refl _⟩ ?_ ?_
  · rintro i σ' H' hi ⟨v1, v2, v3, rfl, e1⟩
    refine ⟨_, rfl, _, rfl, a, ns, i, by rw [Int.zero_add]; rfl, sqL_ex hs e1, by omega, hl, fun p H2 e2 hp p2 => ?_⟩
    refine ⟨3, rfl, by decide, by decide, for_range (lo := 0) (n := 3) (fun j σ' H' => ∃ v3, σ' = [some (.ref a), some (.int (0 + (i : Int))), some (.ref p), v3] ∧ Ex H H' ∧ PoolAt p (200 * j) H') ⟨v3, rfl, e1.trans e2, p2⟩ ?_ ?_⟩
    · rintro j σ' H3 hj ⟨v, rfl, e3, p3⟩
      refine ⟨_, rfl, p, 200 * j, rfl, by omega, p3, fun H4 g4 p4 => ⟨_, rfl, iteF ⟨_, rfl, ?_, p4⟩⟩⟩
      intro b o hb
      have hbp : b ≠ p := fun e => by
        have := e1 _ _ hb
        rw [e, hp] at this
        cases this
      exact g4 b o hbp (e3 _ _ hb)
    · rintro σ' H3 ⟨v, rfl, e3, _⟩
      exact ⟨_, _, _, rfl, e3⟩
  · rintro σ' H' ⟨v1, v2, v3, rfl, e1⟩
    exact k _
end
end E60
namespace E60
open PySem L2 Evl SX
theorem cal_none {P : Program} {w : World} {K : PySem.W.Frag} {mg : Str → Option Value} {base : Heap} {k : Nat} {x : Str} {st : Stmt} {f : Addr} {fd : FuncData} {ps : List Str} {sp : Sp}
    (F : Fun K x x st f fd) (hm : mg x = some (.ref f)) (b : Binds K fd ps []) (no : ∀ vs H Q E, ¬ sp vs H Q E) : Cal P w K mg base k x sp [] :=
  cal_mk F hm b ⟨fun vs H Q E h => absurd h (no vs H Q E), fun A outer s H args us vs Q E _ _ _ _ h => absurd h (no vs H Q E)⟩
theorem kit_same {K : PySem.W.Frag} {C : Addr} : PySem.W.kitOne K (.ref C) (.ref C) = some true := by
  unfold PySem.W.kitOne
  rw [if_pos (by rw [beq_self_eq_true])]
theorem kit_other {K : PySem.W.Frag} {C D : Addr} (ne : (C == D) = false) (hd : PySem.W.hasDictIn K D = true) (ht : PySem.W.typeIn K (.ref D) = some (.type "type")) (h : PySem.W.subIn K (.ref C) (.ref D) = some false) : PySem.W.kitOne K (.ref C) (.ref D) = some false := by
  obtain ⟨cd, hc, _⟩ := PySem.W.any_some hd
  have e1 : ((Value.ref C) == (Value.ref D)) = false := beq_eq_false_iff_ne.mpr fun e => by
    cases e
    rw [beq_self_eq_true] at ne
    cases ne
  unfold PySem.W.kitOne
  rw [if_neg (by rw [e1]; exact Bool.false_ne_true)]
  have e2 : ((PySem.W.clsIn K D).isSome && PySem.W.typeIn K (.ref D) == some (.type "type")) = true := by rw [hc, ht]; rfl
  exact (if_pos e2).trans h
theorem signs_vals {u1 u2 u3 u4 u5 u6 u7 u8 u9 : Tok} : Vals (sgs.map fun g => V.str (S g)) #[Value.str "+" u1, .str "-" u2, .str "*" u3, .str "//" u4, .str "mod" u5, .str "&" u6, .str "|" u7, .str "=" u8, .str "<" u9].toList := by
  have e : (sgs.map fun g => V.str (S g)) = [.str "+", .str "-", .str "*", .str "//", .str "mod", .str "&", .str "|", .str "=", .str "<"] := by decide +kernel
  rw [e]
  exact .cons ⟨_, rfl⟩ (.cons ⟨_, rfl⟩ (.cons ⟨_, rfl⟩ (.cons ⟨_, rfl⟩ (.cons ⟨_, rfl⟩ (.cons ⟨_, rfl⟩ (.cons ⟨_, rfl⟩ (.cons ⟨_, rfl⟩ (.cons ⟨_, rfl⟩ .nil))))))))
theorem all_mk {P : Program} {w : World} {K : PySem.W.Frag} {h : Heap} {mg : Str → Option Value} {fa C CU CR CN CD aS : Addr} (X : K.In h) (G : h.Ns mainGlobals mg) (hfa : mg "law" = some (.ref fa))
    {f0 : Addr} {od0 an0 : Option Addr} {sl0 : Array (Option Value)} {oc0 kV0 dc0 pm0 cd0 ct0 : Value}
    {f1 : Addr} {od1 an1 : Option Addr} {sl1 : Array (Option Value)} {oc1 kV1 dc1 pm1 cd1 ct1 : Value}
    {f2 : Addr} {od2 an2 : Option Addr} {sl2 : Array (Option Value)} {oc2 kV2 dc2 pm2 cd2 ct2 : Value}
    {f3 : Addr} {od3 an3 : Option Addr} {sl3 : Array (Option Value)} {oc3 kV3 dc3 pm3 cd3 ct3 : Value}
    {f4 : Addr} {od4 an4 : Option Addr} {sl4 : Array (Option Value)} {oc4 kV4 dc4 pm4 cd4 ct4 : Value}
    {f5 : Addr} {od5 an5 : Option Addr} {sl5 : Array (Option Value)} {oc5 kV5 dc5 pm5 cd5 ct5 : Value}
    {f6 : Addr} {od6 an6 : Option Addr} {sl6 : Array (Option Value)} {oc6 kV6 dc6 pm6 cd6 ct6 : Value}
    {f7 : Addr} {od7 an7 : Option Addr} {sl7 : Array (Option Value)} {oc7 kV7 dc7 pm7 cd7 ct7 : Value}
    {f8 : Addr} {od8 an8 : Option Addr} {sl8 : Array (Option Value)} {oc8 kV8 dc8 pm8 cd8 ct8 : Value}
    {f9 : Addr} {od9 an9 : Option Addr} {sl9 : Array (Option Value)} {oc9 kV9 dc9 pm9 cd9 ct9 : Value}
    {f10 : Addr} {od10 an10 : Option Addr} {sl10 : Array (Option Value)} {oc10 kV10 dc10 pm10 cd10 ct10 : Value}
    {f11 : Addr} {od11 an11 : Option Addr} {sl11 : Array (Option Value)} {oc11 kV11 dc11 pm11 cd11 ct11 : Value}
    {f12 : Addr} {od12 an12 : Option Addr} {sl12 : Array (Option Value)} {oc12 kV12 dc12 pm12 cd12 ct12 : Value}
    {f13 : Addr} {od13 an13 : Option Addr} {sl13 : Array (Option Value)} {oc13 kV13 dc13 pm13 cd13 ct13 : Value}
    {f14 : Addr} {od14 an14 : Option Addr} {sl14 : Array (Option Value)} {oc14 kV14 dc14 pm14 cd14 ct14 : Value}
    {f15 : Addr} {od15 an15 : Option Addr} {sl15 : Array (Option Value)} {oc15 kV15 dc15 pm15 cd15 ct15 : Value}
    {f16 : Addr} {od16 an16 : Option Addr} {sl16 : Array (Option Value)} {oc16 kV16 dc16 pm16 cd16 ct16 : Value}
    {f17 : Addr} {od17 an17 : Option Addr} {sl17 : Array (Option Value)} {oc17 kV17 dc17 pm17 cd17 ct17 : Value}
    {f18 : Addr} {od18 an18 : Option Addr} {sl18 : Array (Option Value)} {oc18 kV18 dc18 pm18 cd18 ct18 : Value}
    {f19 : Addr} {od19 an19 : Option Addr} {sl19 : Array (Option Value)} {oc19 kV19 dc19 pm19 cd19 ct19 : Value}
    {f20 : Addr} {od20 an20 : Option Addr} {sl20 : Array (Option Value)} {oc20 kV20 dc20 pm20 cd20 ct20 : Value}
    {f21 : Addr} {od21 an21 : Option Addr} {sl21 : Array (Option Value)} {oc21 kV21 dc21 pm21 cd21 ct21 : Value}
    {f22 : Addr} {od22 an22 : Option Addr} {sl22 : Array (Option Value)} {oc22 kV22 dc22 pm22 cd22 ct22 : Value}
    {f23 : Addr} {od23 an23 : Option Addr} {sl23 : Array (Option Value)} {oc23 kV23 dc23 pm23 cd23 ct23 : Value}
    {f24 : Addr} {od24 an24 : Option Addr} {sl24 : Array (Option Value)} {oc24 kV24 dc24 pm24 cd24 ct24 : Value}
    {f25 : Addr} {od25 an25 : Option Addr} {sl25 : Array (Option Value)} {oc25 kV25 dc25 pm25 cd25 ct25 : Value}
    {f26 : Addr} {od26 an26 : Option Addr} {sl26 : Array (Option Value)} {oc26 kV26 dc26 pm26 cd26 ct26 : Value}
    {f27 : Addr} {od27 an27 : Option Addr} {sl27 : Array (Option Value)} {oc27 kV27 dc27 pm27 cd27 ct27 : Value}
    {f28 : Addr} {od28 an28 : Option Addr} {sl28 : Array (Option Value)} {oc28 kV28 dc28 pm28 cd28 ct28 : Value}
    {f29 : Addr} {od29 an29 : Option Addr} {sl29 : Array (Option Value)} {oc29 kV29 dc29 pm29 cd29 ct29 : Value}
    {f30 : Addr} {od30 an30 : Option Addr} {sl30 : Array (Option Value)} {oc30 kV30 dc30 pm30 cd30 ct30 : Value}
    {f31 : Addr} {od31 an31 : Option Addr} {sl31 : Array (Option Value)} {oc31 kV31 dc31 pm31 cd31 ct31 : Value}
    {f32 : Addr} {od32 an32 : Option Addr} {sl32 : Array (Option Value)} {oc32 kV32 dc32 pm32 cd32 ct32 : Value}
    {f33 : Addr} {od33 an33 : Option Addr} {sl33 : Array (Option Value)} {oc33 kV33 dc33 pm33 cd33 ct33 : Value}
    {f34 : Addr} {od34 an34 : Option Addr} {sl34 : Array (Option Value)} {oc34 kV34 dc34 pm34 cd34 ct34 : Value}
    {f35 : Addr} {od35 an35 : Option Addr} {sl35 : Array (Option Value)} {oc35 kV35 dc35 pm35 cd35 ct35 : Value}
    {f36 : Addr} {od36 an36 : Option Addr} {sl36 : Array (Option Value)} {oc36 kV36 dc36 pm36 cd36 ct36 : Value}
    {f37 : Addr} {od37 an37 : Option Addr} {sl37 : Array (Option Value)} {oc37 kV37 dc37 pm37 cd37 ct37 : Value}
    {f38 : Addr} {od38 an38 : Option Addr} {sl38 : Array (Option Value)} {oc38 kV38 dc38 pm38 cd38 ct38 : Value}
    {f39 : Addr} {od39 an39 : Option Addr} {sl39 : Array (Option Value)} {oc39 kV39 dc39 pm39 cd39 ct39 : Value}
    {f40 : Addr} {od40 an40 : Option Addr} {sl40 : Array (Option Value)} {oc40 kV40 dc40 pm40 cd40 ct40 : Value}
    {f41 : Addr} {od41 an41 : Option Addr} {sl41 : Array (Option Value)} {oc41 kV41 dc41 pm41 cd41 ct41 : Value}
    {t1 t2 t3 t4 u1 u2 u3 u4 u5 u6 u7 u8 u9 : Tok} {odS : Option Addr} {nS : Nat} {slS : Array (Option Value)} {rc fo ro : Option Value}
    {nm q : Str} {N0 : Addr} {bs0 : List Value} {sn : List Str} {sub : List Value} {ab : Bool} {col : Option Bool} {dd : Option Addr} {m0 m1 m2 m3 m5 : Option Value}
    (a0 : PySem.W.nsIn K mainGlobals "is_name" = some (some (.ref f0)))
    (l0 : K.lookup f0 = some ⟨oc0, od0, .func (PySem.W.fnOf "is_name" "is_name" (defArgs s_is_name) (defBody s_is_name) (defScope s_is_name) .none kV0 dc0 pm0 an0 cd0 ct0), sl0⟩)
    (c0 : PySem.W.codeIn K cd0 "is_name" = true)
    (k0 : PySem.W.keepIn K (.ref f0) = true)
    (a1 : PySem.W.nsIn K mainGlobals "check_name" = some (some (.ref f1)))
    (l1 : K.lookup f1 = some ⟨oc1, od1, .func (PySem.W.fnOf "check_name" "check_name" (defArgs s_check_name) (defBody s_check_name) (defScope s_check_name) .none kV1 dc1 pm1 an1 cd1 ct1), sl1⟩)
    (c1 : PySem.W.codeIn K cd1 "check_name" = true)
    (k1 : PySem.W.keepIn K (.ref f1) = true)
    (a2 : PySem.W.nsIn K mainGlobals "check_divisor" = some (some (.ref f2)))
    (l2 : K.lookup f2 = some ⟨oc2, od2, .func (PySem.W.fnOf "check_divisor" "check_divisor" (defArgs s_check_divisor) (defBody s_check_divisor) (defScope s_check_divisor) .none kV2 dc2 pm2 an2 cd2 ct2), sl2⟩)
    (c2 : PySem.W.codeIn K cd2 "check_divisor" = true)
    (k2 : PySem.W.keepIn K (.ref f2) = true)
    (a3 : PySem.W.nsIn K mainGlobals "named" = some (some (.ref f3)))
    (l3 : K.lookup f3 = some ⟨oc3, od3, .func (PySem.W.fnOf "named" "named" (defArgs s_named) (defBody s_named) (defScope s_named) .none kV3 dc3 pm3 an3 cd3 ct3), sl3⟩)
    (c3 : PySem.W.codeIn K cd3 "named" = true)
    (k3 : PySem.W.keepIn K (.ref f3) = true)
    (a4 : PySem.W.nsIn K mainGlobals "now" = some (some (.ref f4)))
    (l4 : K.lookup f4 = some ⟨oc4, od4, .func (PySem.W.fnOf "now" "now" (defArgs s_now) (defBody s_now) (defScope s_now) .none kV4 dc4 pm4 an4 cd4 ct4), sl4⟩)
    (c4 : PySem.W.codeIn K cd4 "now" = true)
    (k4 : PySem.W.keepIn K (.ref f4) = true)
    (a5 : PySem.W.nsIn K mainGlobals "passed" = some (some (.ref f5)))
    (l5 : K.lookup f5 = some ⟨oc5, od5, .func (PySem.W.fnOf "passed" "passed" (defArgs s_passed) (defBody s_passed) (defScope s_passed) .none kV5 dc5 pm5 an5 cd5 ct5), sl5⟩)
    (c5 : PySem.W.codeIn K cd5 "passed" = true)
    (k5 : PySem.W.keepIn K (.ref f5) = true)
    (a6 : PySem.W.nsIn K mainGlobals "number" = some (some (.ref f6)))
    (l6 : K.lookup f6 = some ⟨oc6, od6, .func (PySem.W.fnOf "number" "number" (defArgs s_number) (defBody s_number) (defScope s_number) .none kV6 dc6 pm6 an6 cd6 ct6), sl6⟩)
    (c6 : PySem.W.codeIn K cd6 "number" = true)
    (k6 : PySem.W.keepIn K (.ref f6) = true)
    (a7 : PySem.W.nsIn K mainGlobals "value_of" = some (some (.ref f7)))
    (l7 : K.lookup f7 = some ⟨oc7, od7, .func (PySem.W.fnOf "value_of" "value_of" (defArgs s_value_of) (defBody s_value_of) (defScope s_value_of) .none kV7 dc7 pm7 an7 cd7 ct7), sl7⟩)
    (c7 : PySem.W.codeIn K cd7 "value_of" = true)
    (k7 : PySem.W.keepIn K (.ref f7) = true)
    (a8 : PySem.W.nsIn K mainGlobals "show_value" = some (some (.ref f8)))
    (l8 : K.lookup f8 = some ⟨oc8, od8, .func (PySem.W.fnOf "show_value" "show_value" (defArgs s_show_value) (defBody s_show_value) (defScope s_show_value) .none kV8 dc8 pm8 an8 cd8 ct8), sl8⟩)
    (c8 : PySem.W.codeIn K cd8 "show_value" = true)
    (k8 : PySem.W.keepIn K (.ref f8) = true)
    (a9 : PySem.W.nsIn K mainGlobals "is_number" = some (some (.ref f9)))
    (l9 : K.lookup f9 = some ⟨oc9, od9, .func (PySem.W.fnOf "is_number" "is_number" (defArgs s_is_number) (defBody s_is_number) (defScope s_is_number) .none kV9 dc9 pm9 an9 cd9 ct9), sl9⟩)
    (c9 : PySem.W.codeIn K cd9 "is_number" = true)
    (k9 : PySem.W.keepIn K (.ref f9) = true)
    (a10 : PySem.W.nsIn K mainGlobals "split_words" = some (some (.ref f10)))
    (l10 : K.lookup f10 = some ⟨oc10, od10, .func (PySem.W.fnOf "split_words" "split_words" (defArgs s_split_words) (defBody s_split_words) (defScope s_split_words) .none kV10 dc10 pm10 an10 cd10 ct10), sl10⟩)
    (c10 : PySem.W.codeIn K cd10 "split_words" = true)
    (k10 : PySem.W.keepIn K (.ref f10) = true)
    (a11 : PySem.W.nsIn K mainGlobals "value_in" = some (some (.ref f11)))
    (l11 : K.lookup f11 = some ⟨oc11, od11, .func (PySem.W.fnOf "value_in" "value_in" (defArgs s_value_in) (defBody s_value_in) (defScope s_value_in) .none kV11 dc11 pm11 an11 cd11 ct11), sl11⟩)
    (c11 : PySem.W.codeIn K cd11 "value_in" = true)
    (k11 : PySem.W.keepIn K (.ref f11) = true)
    (a12 : PySem.W.nsIn K mainGlobals "value_of_text" = some (some (.ref f12)))
    (l12 : K.lookup f12 = some ⟨oc12, od12, .func (PySem.W.fnOf "value_of_text" "value_of_text" (defArgs s_value_of_text) (defBody s_value_of_text) (defScope s_value_of_text) .none kV12 dc12 pm12 an12 cd12 ct12), sl12⟩)
    (c12 : PySem.W.codeIn K cd12 "value_of_text" = true)
    (k12 : PySem.W.keepIn K (.ref f12) = true)
    (a13 : PySem.W.nsIn K mainGlobals "read_value" = some (some (.ref f13)))
    (l13 : K.lookup f13 = some ⟨oc13, od13, .func (PySem.W.fnOf "read_value" "read_value" (defArgs s_read_value) (defBody s_read_value) (defScope s_read_value) .none kV13 dc13 pm13 an13 cd13 ct13), sl13⟩)
    (c13 : PySem.W.codeIn K cd13 "read_value" = true)
    (k13 : PySem.W.keepIn K (.ref f13) = true)
    (a14 : PySem.W.nsIn K mainGlobals "_law_pool" = some (some (.ref f14)))
    (l14 : K.lookup f14 = some ⟨oc14, od14, .func (PySem.W.fnOf "_law_pool" "_law_pool" (defArgs s__law_pool) (defBody s__law_pool) (defScope s__law_pool) .none kV14 dc14 pm14 an14 cd14 ct14), sl14⟩)
    (c14 : PySem.W.codeIn K cd14 "_law_pool" = true)
    (k14 : PySem.W.keepIn K (.ref f14) = true)
    (a15 : PySem.W.nsIn K mainGlobals "_law_draw" = some (some (.ref f15)))
    (l15 : K.lookup f15 = some ⟨oc15, od15, .func (PySem.W.fnOf "_law_draw" "_law_draw" (defArgs s__law_draw) (defBody s__law_draw) (defScope s__law_draw) .none kV15 dc15 pm15 an15 cd15 ct15), sl15⟩)
    (c15 : PySem.W.codeIn K cd15 "_law_draw" = true)
    (k15 : PySem.W.keepIn K (.ref f15) = true)
    (a16 : PySem.W.nsIn K mainGlobals "_law_leaf" = some (some (.ref f16)))
    (l16 : K.lookup f16 = some ⟨oc16, od16, .func (PySem.W.fnOf "_law_leaf" "_law_leaf" (defArgs s__law_leaf) (defBody s__law_leaf) (defScope s__law_leaf) .none kV16 dc16 pm16 an16 cd16 ct16), sl16⟩)
    (c16 : PySem.W.codeIn K cd16 "_law_leaf" = true)
    (k16 : PySem.W.keepIn K (.ref f16) = true)
    (a17 : PySem.W.nsIn K mainGlobals "_law_long" = some (some (.ref f17)))
    (l17 : K.lookup f17 = some ⟨oc17, od17, .func (PySem.W.fnOf "_law_long" "_law_long" (defArgs s__law_long) (defBody s__law_long) (defScope s__law_long) .none kV17 dc17 pm17 an17 cd17 ct17), sl17⟩)
    (c17 : PySem.W.codeIn K cd17 "_law_long" = true)
    (k17 : PySem.W.keepIn K (.ref f17) = true)
    (a18 : PySem.W.nsIn K mainGlobals "_law_part" = some (some (.ref f18)))
    (l18 : K.lookup f18 = some ⟨oc18, od18, .func (PySem.W.fnOf "_law_part" "_law_part" (defArgs s__law_part) (defBody s__law_part) (defScope s__law_part) .none kV18 dc18 pm18 an18 cd18 ct18), sl18⟩)
    (c18 : PySem.W.codeIn K cd18 "_law_part" = true)
    (k18 : PySem.W.keepIn K (.ref f18) = true)
    (a19 : PySem.W.nsIn K mainGlobals "_law_value" = some (some (.ref f19)))
    (l19 : K.lookup f19 = some ⟨oc19, od19, .func (PySem.W.fnOf "_law_value" "_law_value" (defArgs s__law_value) (defBody s__law_value) (defScope s__law_value) .none kV19 dc19 pm19 an19 cd19 ct19), sl19⟩)
    (c19 : PySem.W.codeIn K cd19 "_law_value" = true)
    (k19 : PySem.W.keepIn K (.ref f19) = true)
    (a20 : PySem.W.nsIn K mainGlobals "_law_integer" = some (some (.ref f20)))
    (l20 : K.lookup f20 = some ⟨oc20, od20, .func (PySem.W.fnOf "_law_integer" "_law_integer" (defArgs s__law_integer) (defBody s__law_integer) (defScope s__law_integer) .none kV20 dc20 pm20 an20 cd20 ct20), sl20⟩)
    (c20 : PySem.W.codeIn K cd20 "_law_integer" = true)
    (k20 : PySem.W.keepIn K (.ref f20) = true)
    (a21 : PySem.W.nsIn K mainGlobals "_law_run_of" = some (some (.ref f21)))
    (l21 : K.lookup f21 = some ⟨oc21, od21, .func (PySem.W.fnOf "_law_run_of" "_law_run_of" (defArgs s__law_run_of) (defBody s__law_run_of) (defScope s__law_run_of) .none kV21 dc21 pm21 an21 cd21 ct21), sl21⟩)
    (c21 : PySem.W.codeIn K cd21 "_law_run_of" = true)
    (k21 : PySem.W.keepIn K (.ref f21) = true)
    (a22 : PySem.W.nsIn K mainGlobals "_law_name_end" = some (some (.ref f22)))
    (l22 : K.lookup f22 = some ⟨oc22, od22, .func (PySem.W.fnOf "_law_name_end" "_law_name_end" (defArgs s__law_name_end) (defBody s__law_name_end) (defScope s__law_name_end) .none kV22 dc22 pm22 an22 cd22 ct22), sl22⟩)
    (c22 : PySem.W.codeIn K cd22 "_law_name_end" = true)
    (k22 : PySem.W.keepIn K (.ref f22) = true)
    (a23 : PySem.W.nsIn K mainGlobals "_law_ends" = some (some (.ref f23)))
    (l23 : K.lookup f23 = some ⟨oc23, od23, .func (PySem.W.fnOf "_law_ends" "_law_ends" (defArgs s__law_ends) (defBody s__law_ends) (defScope s__law_ends) .none kV23 dc23 pm23 an23 cd23 ct23), sl23⟩)
    (c23 : PySem.W.codeIn K cd23 "_law_ends" = true)
    (k23 : PySem.W.keepIn K (.ref f23) = true)
    (a24 : PySem.W.nsIn K mainGlobals "_law_is_value" = some (some (.ref f24)))
    (l24 : K.lookup f24 = some ⟨oc24, od24, .func (PySem.W.fnOf "_law_is_value" "_law_is_value" (defArgs s__law_is_value) (defBody s__law_is_value) (defScope s__law_is_value) .none kV24 dc24 pm24 an24 cd24 ct24), sl24⟩)
    (c24 : PySem.W.codeIn K cd24 "_law_is_value" = true)
    (k24 : PySem.W.keepIn K (.ref f24) = true)
    (a25 : PySem.W.nsIn K mainGlobals "_law_caught" = some (some (.ref f25)))
    (l25 : K.lookup f25 = some ⟨oc25, od25, .func (PySem.W.fnOf "_law_caught" "_law_caught" (defArgs s__law_caught) (defBody s__law_caught) (defScope s__law_caught) .none kV25 dc25 pm25 an25 cd25 ct25), sl25⟩)
    (c25 : PySem.W.codeIn K cd25 "_law_caught" = true)
    (k25 : PySem.W.keepIn K (.ref f25) = true)
    (a26 : PySem.W.nsIn K mainGlobals "_law_odd" = some (some (.ref f26)))
    (l26 : K.lookup f26 = some ⟨oc26, od26, .func (PySem.W.fnOf "_law_odd" "_law_odd" (defArgs s__law_odd) (defBody s__law_odd) (defScope s__law_odd) .none kV26 dc26 pm26 an26 cd26 ct26), sl26⟩)
    (c26 : PySem.W.codeIn K cd26 "_law_odd" = true)
    (k26 : PySem.W.keepIn K (.ref f26) = true)
    (a27 : PySem.W.nsIn K mainGlobals "_law_bent" = some (some (.ref f27)))
    (l27 : K.lookup f27 = some ⟨oc27, od27, .func (PySem.W.fnOf "_law_bent" "_law_bent" (defArgs s__law_bent) (defBody s__law_bent) (defScope s__law_bent) .none kV27 dc27 pm27 an27 cd27 ct27), sl27⟩)
    (c27 : PySem.W.codeIn K cd27 "_law_bent" = true)
    (k27 : PySem.W.keepIn K (.ref f27) = true)
    (a28 : PySem.W.nsIn K mainGlobals "_law_right" = some (some (.ref f28)))
    (l28 : K.lookup f28 = some ⟨oc28, od28, .func (PySem.W.fnOf "_law_right" "_law_right" (defArgs s__law_right) (defBody s__law_right) (defScope s__law_right) .none kV28 dc28 pm28 an28 cd28 ct28), sl28⟩)
    (c28 : PySem.W.codeIn K cd28 "_law_right" = true)
    (k28 : PySem.W.keepIn K (.ref f28) = true)
    (a29 : PySem.W.nsIn K mainGlobals "law" = some (some (.ref f29)))
    (l29 : K.lookup f29 = some ⟨oc29, od29, .func (PySem.W.fnOf "law" "law" (defArgs s_law) (defBody s_law) (defScope s_law) .none kV29 dc29 pm29 an29 cd29 ct29), sl29⟩)
    (c29 : PySem.W.codeIn K cd29 "law" = true)
    (k29 : PySem.W.keepIn K (.ref f29) = true)
    (a30 : PySem.W.findIn K (.ref C) "__init__" = some (some (.ref f30)))
    (i30 : PySem.W.isFn K (.ref f30) = true)
    (l30 : K.lookup f30 = some ⟨oc30, od30, .func (PySem.W.fnOf "__init__" "Value.__init__" (defArgs s_Value___init__) (defBody s_Value___init__) (defScope s_Value___init__) .none kV30 dc30 pm30 an30 cd30 ct30), sl30⟩)
    (c30 : PySem.W.codeIn K cd30 "Value.__init__" = true)
    (k30 : PySem.W.keepIn K (.ref f30) = true)
    (a31 : PySem.W.findIn K (.ref C) "__add__" = some (some (.ref f31)))
    (i31 : PySem.W.isFn K (.ref f31) = true)
    (l31 : K.lookup f31 = some ⟨oc31, od31, .func (PySem.W.fnOf "__add__" "Value.__add__" (defArgs s_Value___add__) (defBody s_Value___add__) (defScope s_Value___add__) .none kV31 dc31 pm31 an31 cd31 ct31), sl31⟩)
    (c31 : PySem.W.codeIn K cd31 "Value.__add__" = true)
    (k31 : PySem.W.keepIn K (.ref f31) = true)
    (a32 : PySem.W.findIn K (.ref C) "__sub__" = some (some (.ref f32)))
    (i32 : PySem.W.isFn K (.ref f32) = true)
    (l32 : K.lookup f32 = some ⟨oc32, od32, .func (PySem.W.fnOf "__sub__" "Value.__sub__" (defArgs s_Value___sub__) (defBody s_Value___sub__) (defScope s_Value___sub__) .none kV32 dc32 pm32 an32 cd32 ct32), sl32⟩)
    (c32 : PySem.W.codeIn K cd32 "Value.__sub__" = true)
    (k32 : PySem.W.keepIn K (.ref f32) = true)
    (a33 : PySem.W.findIn K (.ref C) "__mul__" = some (some (.ref f33)))
    (i33 : PySem.W.isFn K (.ref f33) = true)
    (l33 : K.lookup f33 = some ⟨oc33, od33, .func (PySem.W.fnOf "__mul__" "Value.__mul__" (defArgs s_Value___mul__) (defBody s_Value___mul__) (defScope s_Value___mul__) .none kV33 dc33 pm33 an33 cd33 ct33), sl33⟩)
    (c33 : PySem.W.codeIn K cd33 "Value.__mul__" = true)
    (k33 : PySem.W.keepIn K (.ref f33) = true)
    (a34 : PySem.W.findIn K (.ref C) "__and__" = some (some (.ref f34)))
    (i34 : PySem.W.isFn K (.ref f34) = true)
    (l34 : K.lookup f34 = some ⟨oc34, od34, .func (PySem.W.fnOf "__and__" "Value.__and__" (defArgs s_Value___and__) (defBody s_Value___and__) (defScope s_Value___and__) .none kV34 dc34 pm34 an34 cd34 ct34), sl34⟩)
    (c34 : PySem.W.codeIn K cd34 "Value.__and__" = true)
    (k34 : PySem.W.keepIn K (.ref f34) = true)
    (a35 : PySem.W.findIn K (.ref C) "__or__" = some (some (.ref f35)))
    (i35 : PySem.W.isFn K (.ref f35) = true)
    (l35 : K.lookup f35 = some ⟨oc35, od35, .func (PySem.W.fnOf "__or__" "Value.__or__" (defArgs s_Value___or__) (defBody s_Value___or__) (defScope s_Value___or__) .none kV35 dc35 pm35 an35 cd35 ct35), sl35⟩)
    (c35 : PySem.W.codeIn K cd35 "Value.__or__" = true)
    (k35 : PySem.W.keepIn K (.ref f35) = true)
    (a36 : PySem.W.findIn K (.ref C) "__floordiv__" = some (some (.ref f36)))
    (i36 : PySem.W.isFn K (.ref f36) = true)
    (l36 : K.lookup f36 = some ⟨oc36, od36, .func (PySem.W.fnOf "__floordiv__" "Value.__floordiv__" (defArgs s_Value___floordiv__) (defBody s_Value___floordiv__) (defScope s_Value___floordiv__) .none kV36 dc36 pm36 an36 cd36 ct36), sl36⟩)
    (c36 : PySem.W.codeIn K cd36 "Value.__floordiv__" = true)
    (k36 : PySem.W.keepIn K (.ref f36) = true)
    (a37 : PySem.W.findIn K (.ref C) "__invert__" = some (some (.ref f37)))
    (i37 : PySem.W.isFn K (.ref f37) = true)
    (l37 : K.lookup f37 = some ⟨oc37, od37, .func (PySem.W.fnOf "__invert__" "Value.__invert__" (defArgs s_Value___invert__) (defBody s_Value___invert__) (defScope s_Value___invert__) .none kV37 dc37 pm37 an37 cd37 ct37), sl37⟩)
    (c37 : PySem.W.codeIn K cd37 "Value.__invert__" = true)
    (k37 : PySem.W.keepIn K (.ref f37) = true)
    (a38 : PySem.W.findIn K (.ref C) "rest" = some (some (.ref f38)))
    (i38 : PySem.W.isFn K (.ref f38) = true)
    (l38 : K.lookup f38 = some ⟨oc38, od38, .func (PySem.W.fnOf "rest" "Value.rest" (defArgs s_Value_rest) (defBody s_Value_rest) (defScope s_Value_rest) .none kV38 dc38 pm38 an38 cd38 ct38), sl38⟩)
    (c38 : PySem.W.codeIn K cd38 "Value.rest" = true)
    (k38 : PySem.W.keepIn K (.ref f38) = true)
    (a39 : PySem.W.findIn K (.ref C) "same" = some (some (.ref f39)))
    (i39 : PySem.W.isFn K (.ref f39) = true)
    (l39 : K.lookup f39 = some ⟨oc39, od39, .func (PySem.W.fnOf "same" "Value.same" (defArgs s_Value_same) (defBody s_Value_same) (defScope s_Value_same) .none kV39 dc39 pm39 an39 cd39 ct39), sl39⟩)
    (c39 : PySem.W.codeIn K cd39 "Value.same" = true)
    (k39 : PySem.W.keepIn K (.ref f39) = true)
    (a40 : PySem.W.findIn K (.ref C) "less" = some (some (.ref f40)))
    (i40 : PySem.W.isFn K (.ref f40) = true)
    (l40 : K.lookup f40 = some ⟨oc40, od40, .func (PySem.W.fnOf "less" "Value.less" (defArgs s_Value_less) (defBody s_Value_less) (defScope s_Value_less) .none kV40 dc40 pm40 an40 cd40 ct40), sl40⟩)
    (c40 : PySem.W.codeIn K cd40 "Value.less" = true)
    (k40 : PySem.W.keepIn K (.ref f40) = true)
    (a41 : PySem.W.findIn K (.ref CU) "__init__" = some (some (.ref f41)))
    (i41 : PySem.W.typeIn K (.ref f41) = some (.type "function"))
    (l41 : K.lookup f41 = some ⟨oc41, od41, .func (PySem.W.fnOf "__init__" "RunError.__init__" (defArgs s_RunError___init__) (defBody s_RunError___init__) (defScope s_RunError___init__) .none kV41 dc41 pm41 an41 cd41 ct41), sl41⟩)
    (c41 : PySem.W.codeIn K cd41 "RunError.__init__" = true)
    (k41 : PySem.W.keepIn K (.ref f41) = true)
    (z_len : PySem.W.nsIn K mainGlobals "len" = some none)
    (z_all : PySem.W.nsIn K mainGlobals "all" = some none)
    (z_isinstance : PySem.W.nsIn K mainGlobals "isinstance" = some none)
    (z_str : PySem.W.nsIn K mainGlobals "str" = some none)
    (z_int : PySem.W.nsIn K mainGlobals "int" = some none)
    (z_abs : PySem.W.nsIn K mainGlobals "abs" = some none)
    (z_max : PySem.W.nsIn K mainGlobals "max" = some none)
    (z_min : PySem.W.nsIn K mainGlobals "min" = some none)
    (z_range : PySem.W.nsIn K mainGlobals "range" = some none)
    (g_LETTERS : PySem.W.nsIn K mainGlobals "LETTERS" = some (some (.str "abcdefghijklmnopqrstuvwxyz" t1)))
    (g_DIGITS : PySem.W.nsIn K mainGlobals "DIGITS" = some (some (.str "0123456789" t2)))
    (g_MD : PySem.W.nsIn K mainGlobals "MOST_DIGITS" = some (some (.int 20 t3)))
    (g_MS : PySem.W.nsIn K mainGlobals "MOST_SIGNS" = some (some (.int 12 t4)))
    (g_SIGNS : PySem.W.nsIn K mainGlobals "SIGNS" = some (some (.ref aS)))
    (l_SIGNS : K.lookup aS = some ⟨.type "tuple", odS, .seq #[.str "+" u1, .str "-" u2, .str "*" u3, .str "//" u4, .str "mod" u5, .str "&" u6, .str "|" u7, .str "=" u8, .str "<" u9] nS, slS⟩)
    (aC : PySem.W.nsIn K mainGlobals "Value" = some (some (.ref C)))
    (pg : PySem.W.plainGet K C Str.empty = true)
    (hd : PySem.W.hasDictIn K C = true)
    (po : PySem.W.plainOver K C = true)
    (sa : PySem.W.findIn K (.ref C) "__setattr__" = some (some (.builtin "object.__setattr__")))
    (mk : PySem.W.makesIn K C = true)
    (kc : PySem.W.keepIn K (.ref C) = true)
    (n1 : PySem.W.findIn K (.ref C) "sign" = some none)
    (n2 : PySem.W.findIn K (.ref C) "first" = some none)
    (n3 : PySem.W.findIn K (.ref C) "second" = some none)
    (ca : PySem.W.findIn K (.ref C) "__class__" = some (some (.builtin "object.__class__")))
    (gs : PySem.W.specialIn K (.builtin "object.__class__") "__get__" = some (some (.builtin "getset_descriptor.__get__")))
    (tk : PySem.W.takesIn K (.builtin "object.__class__") = some true)
    (mo : PySem.W.mroIn K C (.type "object") = some true)
    (sf : PySem.W.selfFirst K C = true)
    (rf : PySem.W.findIn K (.ref C) "__rfloordiv__" = some rc)
    (if1 : PySem.W.findIn K (.type "int") "__floordiv__" = some fo)
    (if2 : PySem.W.findIn K (.type "int") "__rfloordiv__" = some ro)
    (si : PySem.W.subIn K (.type "int") (.ref C) = some false)
    (aU : PySem.W.nsIn K mainGlobals "Unreadable" = some (some (.ref CU)))
    (aR : PySem.W.nsIn K mainGlobals "RunError" = some (some (.ref CR)))
    (aN : PySem.W.nsIn K mainGlobals "InvalidName" = some (some (.ref CN)))
    (aD : PySem.W.nsIn K mainGlobals "InvalidDivisor" = some (some (.ref CD)))
    (xL : K.lookup CU = some (excClassObj nm q CU N0 bs0 [.ref CR, .type "ValueError", .type "Exception", .type "BaseException", .type "object"] true sn sub ab col dd m0 m1 m2 m3 m5 "ValueError.__new__"))
    (Usa : PySem.W.findIn K (.ref CU) "__setattr__" = some (some (.builtin "object.__setattr__")))
    (Uga : PySem.W.findIn K (.ref CU) "__getattribute__" = some (some (.builtin "BaseException.__getattribute__")))
    (Ugg : PySem.W.findIn K (.ref CU) "__getattr__" = some none)
    (Unv : PySem.W.findIn K (.ref CU) "value" = some none)
    (Uk : PySem.W.keepIn K (.ref CU) = true)
    (Ue : PySem.W.subIn K (.ref CU) (.type "BaseException") = some true)
    (Ut : PySem.W.typeIn K (.ref CU) = some (.type "type"))
    (Uh : PySem.W.hasDictIn K CU = true)
    (Uca : PySem.W.findIn K (.ref CU) "__class__" = some (some (.builtin "object.__class__")))
    (Umo : PySem.W.mroIn K CU (.type "object") = some true)
    (Re : PySem.W.subIn K (.ref CR) (.type "BaseException") = some true)
    (Rt : PySem.W.typeIn K (.ref CR) = some (.type "type"))
    (Rh : PySem.W.hasDictIn K CR = true)
    (UR : PySem.W.subIn K (.ref CU) (.ref CR) = some true)
    (Nt : PySem.W.typeIn K (.ref CN) = some (.type "type"))
    (Nh : PySem.W.hasDictIn K CN = true)
    (UN : PySem.W.subIn K (.ref CU) (.ref CN) = some false)
    (Dt : PySem.W.typeIn K (.ref CD) = some (.type "type"))
    (Dh : PySem.W.hasDictIn K CD = true)
    (UD : PySem.W.subIn K (.ref CU) (.ref CD) = some false)
    (neN : (CU == CN) = false)
    (neD : (CU == CD) = false)
    (rcs : rc = none ∨ ∃ g : Addr, rc = some (.ref g))
    : ∃ fd : FuncData, (∀ (s : Shared) (v : Value), BindsTo s fd ⟨[v], []⟩ [("script", v)]) ∧ ∀ base : Heap, K.In base → base.Ns mainGlobals mg → FnOk P w K mg base CX0 24 fa fd ["script"] (spLaw (K := K)) := by
  have e := hfa.symm.trans (PySem.W.mg_of X G a29)
  cases e
  have cl : Cls K C := ⟨pg, hd, po, sa⟩
  have T : Txt K mg C :=
    { len := PySem.W.mg_none_of X G z_len, all := PySem.W.mg_none_of X G z_all, isinstance := PySem.W.mg_none_of X G z_isinstance, str := PySem.W.mg_none_of X G z_str, int := PySem.W.mg_none_of X G z_int, abs := PySem.W.mg_none_of X G z_abs,
      max := PySem.W.mg_none_of X G z_max, min := PySem.W.mg_none_of X G z_min, range := PySem.W.mg_none_of X G z_range,
      LETTERS := ⟨_, PySem.W.mg_of X G g_LETTERS, _, rfl⟩, DIGITS := ⟨_, PySem.W.mg_of X G g_DIGITS, _, rfl⟩, MOST_DIGITS := ⟨_, PySem.W.mg_of X G g_MD, _, rfl⟩, MOST_SIGNS := ⟨_, PySem.W.mg_of X G g_MS, _, rfl⟩,
      SIGNS := ⟨aS, PySem.W.mg_of X G g_SIGNS, fun H => .inr ⟨_, _, _, l_SIGNS, rfl, rfl, (by show 9 ≤ sizeLine; decide), signs_vals⟩⟩,
      Value := ⟨_, PySem.W.mg_of X G aC, rfl⟩, cl := cl, nsign := n1, nfirst := n2, nsecond := n3, ins := ⟨cl, ca, gs, tk, mo, kit_same⟩ }
  have hcU : (PySem.W.clsIn K CU).isSome = true := by
    obtain ⟨cd, hc, _⟩ := PySem.W.any_some Uh
    rw [hc]
    rfl
  have X1 : XTxt K mg CU CR CN CD f41 :=
    { gU := PySem.W.mg_of X G aU, gR := PySem.W.mg_of X G aR, gN := PySem.W.mg_of X G aN, gD := PySem.W.mg_of X G aD,
      ox := ⟨⟨_, _, _, _, _, _, _, _, _, _, _, _, _, _, _, xL, by rfl⟩, Usa, Ue, Ut, Uk⟩, noV := Unv, iC := a41, tI := i41, te := PySem.W.exm_ref Re Rh Rt UR,
      xf := ⟨Uga, Ugg, Ue, Uh⟩, is := ⟨hcU, Uga, Ugg, Ue, Uca, gs, tk, Umo⟩, kU := kit_same,
      kT := by
        show (match PySem.W.kitOne K (.ref CU) (.ref CN) with | some true => some true | some false => PySem.W.kitAny K (.ref CU) [.ref CD] | none => none) = some false
        rw [kit_other neN Nh Nt UN]
        show (match PySem.W.kitOne K (.ref CU) (.ref CD) with | some true => some true | some false => PySem.W.kitAny K (.ref CU) [] | none => none) = some false
        rw [kit_other neD Dh Dt UD]
        rfl }
  have F0 := fun_mk (st := s_is_name) l0 c0 k0
  have b0 := F0.binds (ps := ["name"]) fun _ _ _ _ _ _ us hl => match us, hl with | [_], _ => rfl
  have m0 := PySem.W.mg_of X G a0
  have F1 := fun_mk (st := s_check_name) l1 c1 k1
  have b1 := F1.binds (ps := ["name"]) fun _ _ _ _ _ _ us hl => match us, hl with | [_], _ => rfl
  have m1 := PySem.W.mg_of X G a1
  have F2 := fun_mk (st := s_check_divisor) l2 c2 k2
  have b2 := F2.binds (ps := ["number"]) fun _ _ _ _ _ _ us hl => match us, hl with | [_], _ => rfl
  have m2 := PySem.W.mg_of X G a2
  have F3 := fun_mk (st := s_named) l3 c3 k3
  have b3 := F3.binds (ps := ["name"]) fun _ _ _ _ _ _ us hl => match us, hl with | [_], _ => rfl
  have m3 := PySem.W.mg_of X G a3
  have F4 := fun_mk (st := s_now) l4 c4 k4
  have b4 := F4.binds (ps := ["name"]) fun _ _ _ _ _ _ us hl => match us, hl with | [_], _ => rfl
  have m4 := PySem.W.mg_of X G a4
  have F5 := fun_mk (st := s_passed) l5 c5 k5
  have b5 := F5.binds (ps := []) fun _ _ _ _ _ _ us hl => match us, hl with | [], _ => rfl
  have m5 := PySem.W.mg_of X G a5
  have F6 := fun_mk (st := s_number) l6 c6 k6
  have b6 := F6.binds (ps := ["n"]) fun _ _ _ _ _ _ us hl => match us, hl with | [_], _ => rfl
  have m6 := PySem.W.mg_of X G a6
  have F7 := fun_mk (st := s_value_of) l7 c7 k7
  have b7 := F7.binds (ps := ["part"]) fun _ _ _ _ _ _ us hl => match us, hl with | [_], _ => rfl
  have m7 := PySem.W.mg_of X G a7
  have F8 := fun_mk (st := s_show_value) l8 c8 k8
  have b8 := F8.binds (ps := ["value"]) fun _ _ _ _ _ _ us hl => match us, hl with | [_], _ => rfl
  have m8 := PySem.W.mg_of X G a8
  have F9 := fun_mk (st := s_is_number) l9 c9 k9
  have b9 := F9.binds (ps := ["text", "most"]) fun _ _ _ _ _ _ us hl => match us, hl with | [_, _], _ => rfl
  have m9 := PySem.W.mg_of X G a9
  have F10 := fun_mk (st := s_split_words) l10 c10 k10
  have b10 := F10.binds (ps := ["text"]) fun _ _ _ _ _ _ us hl => match us, hl with | [_], _ => rfl
  have m10 := PySem.W.mg_of X G a10
  have F11 := fun_mk (st := s_value_in) l11 c11 k11
  have b11 := F11.binds (ps := ["text"]) fun _ _ _ _ _ _ us hl => match us, hl with | [_], _ => rfl
  have m11 := PySem.W.mg_of X G a11
  have F12 := fun_mk (st := s_value_of_text) l12 c12 k12
  have b12 := F12.binds (ps := ["text"]) fun _ _ _ _ _ _ us hl => match us, hl with | [_], _ => rfl
  have m12 := PySem.W.mg_of X G a12
  have F13 := fun_mk (st := s_read_value) l13 c13 k13
  have b13 := F13.binds (ps := ["text"]) fun _ _ _ _ _ _ us hl => match us, hl with | [_], _ => rfl
  have m13 := PySem.W.mg_of X G a13
  have F14 := fun_mk (st := s__law_pool) l14 c14 k14
  have b14 := F14.binds (ps := ["script", "spot"]) fun _ _ _ _ _ _ us hl => match us, hl with | [_, _], _ => rfl
  have m14 := PySem.W.mg_of X G a14
  have F15 := fun_mk (st := s__law_draw) l15 c15 k15
  have b15 := F15.binds (ps := ["pool", "span"]) fun _ _ _ _ _ _ us hl => match us, hl with | [_, _], _ => rfl
  have m15 := PySem.W.mg_of X G a15
  have F16 := fun_mk (st := s__law_leaf) l16 c16 k16
  have b16 := F16.binds (ps := ["pool", "names_here", "nows_here"]) fun _ _ _ _ _ _ us hl => match us, hl with | [_, _, _], _ => rfl
  have m16 := PySem.W.mg_of X G a16
  have F17 := fun_mk (st := s__law_long) l17 c17 k17
  have b17 := F17.binds (ps := ["pool", "names_here", "nows_here", "signs"]) fun _ _ _ _ _ _ us hl => match us, hl with | [_, _, _, _], _ => rfl
  have m17 := PySem.W.mg_of X G a17
  have F18 := fun_mk (st := s__law_part) l18 c18 k18
  have b18 := F18.binds (ps := ["plan", "style"]) fun _ _ _ _ _ _ us hl => match us, hl with | [_, _], _ => rfl
  have m18 := PySem.W.mg_of X G a18
  have F19 := fun_mk (st := s__law_value) l19 c19 k19
  have b19 := F19.binds (ps := ["plan", "style"]) fun _ _ _ _ _ _ us hl => match us, hl with | [_, _], _ => rfl
  have m19 := PySem.W.mg_of X G a19
  have F20 := fun_mk (st := s__law_integer) l20 c20 k20
  have b20 := F20.binds (ps := ["wording"]) fun _ _ _ _ _ _ us hl => match us, hl with | [_], _ => rfl
  have m20 := PySem.W.mg_of X G a20
  have F21 := fun_mk (st := s__law_run_of) l21 c21 k21
  have b21 := F21.binds (ps := ["wording", "at", "allowed"]) fun _ _ _ _ _ _ us hl => match us, hl with | [_, _, _], _ => rfl
  have m21 := PySem.W.mg_of X G a21
  have F22 := fun_mk (st := s__law_name_end) l22 c22 k22
  have b22 := F22.binds (ps := ["wording", "at"]) fun _ _ _ _ _ _ us hl => match us, hl with | [_, _], _ => rfl
  have m22 := PySem.W.mg_of X G a22
  have F23 := fun_mk (st := s__law_ends) l23 c23 k23
  have b23 := F23.binds (ps := ["wording", "at"]) fun _ _ _ _ _ _ us hl => match us, hl with | [_, _], _ => rfl
  have m23 := PySem.W.mg_of X G a23
  have F24 := fun_mk (st := s__law_is_value) l24 c24 k24
  have b24 := F24.binds (ps := ["wording"]) fun _ _ _ _ _ _ us hl => match us, hl with | [_], _ => rfl
  have m24 := PySem.W.mg_of X G a24
  have F25 := fun_mk (st := s__law_caught) l25 c25 k25
  have b25 := F25.binds (ps := ["wording", "way"]) fun _ _ _ _ _ _ us hl => match us, hl with | [_, _], _ => rfl
  have m25 := PySem.W.mg_of X G a25
  have F26 := fun_mk (st := s__law_odd) l26 c26 k26
  have b26 := F26.binds (ps := ["pool", "wording"]) fun _ _ _ _ _ _ us hl => match us, hl with | [_, _], _ => rfl
  have m26 := PySem.W.mg_of X G a26
  have F27 := fun_mk (st := s__law_bent) l27 c27 k27
  have b27 := F27.binds (ps := ["pool", "wording"]) fun _ _ _ _ _ _ us hl => match us, hl with | [_, _], _ => rfl
  have m27 := PySem.W.mg_of X G a27
  have F28 := fun_mk (st := s__law_right) l28 c28 k28
  have b28 := F28.binds (ps := ["pool"]) fun _ _ _ _ _ _ us hl => match us, hl with | [_], _ => rfl
  have m28 := PySem.W.mg_of X G a28
  have F29 := fun_mk (st := s_law) l29 c29 k29
  have m29 := PySem.W.mg_of X G a29
  have F30 := fun_mk (st := s_Value___init__) l30 c30 k30
  have b30 := F30.binds (ps := ["self", "sign", "first", "second"]) fun _ _ _ _ _ _ us hl => match us, hl with | [_, _, _, _], _ => rfl
  have F31 := fun_mk (st := s_Value___add__) l31 c31 k31
  have b31 := F31.binds (ps := ["self", "other"]) fun _ _ _ _ _ _ us hl => match us, hl with | [_, _], _ => rfl
  have F32 := fun_mk (st := s_Value___sub__) l32 c32 k32
  have b32 := F32.binds (ps := ["self", "other"]) fun _ _ _ _ _ _ us hl => match us, hl with | [_, _], _ => rfl
  have F33 := fun_mk (st := s_Value___mul__) l33 c33 k33
  have b33 := F33.binds (ps := ["self", "other"]) fun _ _ _ _ _ _ us hl => match us, hl with | [_, _], _ => rfl
  have F34 := fun_mk (st := s_Value___and__) l34 c34 k34
  have b34 := F34.binds (ps := ["self", "other"]) fun _ _ _ _ _ _ us hl => match us, hl with | [_, _], _ => rfl
  have F35 := fun_mk (st := s_Value___or__) l35 c35 k35
  have b35 := F35.binds (ps := ["self", "other"]) fun _ _ _ _ _ _ us hl => match us, hl with | [_, _], _ => rfl
  have F36 := fun_mk (st := s_Value___floordiv__) l36 c36 k36
  have b36 := F36.binds (ps := ["self", "other"]) fun _ _ _ _ _ _ us hl => match us, hl with | [_, _], _ => rfl
  have F37 := fun_mk (st := s_Value___invert__) l37 c37 k37
  have b37 := F37.binds (ps := ["self"]) fun _ _ _ _ _ _ us hl => match us, hl with | [_], _ => rfl
  have F38 := fun_mk (st := s_Value_rest) l38 c38 k38
  have b38 := F38.binds (ps := ["self", "n"]) fun _ _ _ _ _ _ us hl => match us, hl with | [_, _], _ => rfl
  have F39 := fun_mk (st := s_Value_same) l39 c39 k39
  have b39 := F39.binds (ps := ["self", "other"]) fun _ _ _ _ _ _ us hl => match us, hl with | [_, _], _ => rfl
  have F40 := fun_mk (st := s_Value_less) l40 c40 k40
  have b40 := F40.binds (ps := ["self", "other"]) fun _ _ _ _ _ _ us hl => match us, hl with | [_, _], _ => rfl
  have F41 := fun_mk (st := s_RunError___init__) l41 c41 k41
  have b41 := F41.binds (ps := ["self", "value"]) fun _ _ _ _ _ _ us hl => match us, hl with | [_, _], _ => rfl
  refine ⟨PySem.W.fnOf "law" "law" (defArgs s_law) (defBody s_law) (defScope s_law) .none kV29 dc29 pm29 an29 cd29 ct29, fun s v => .of_eq rfl, fun base _ _ => ?_⟩
  skip
  have c_is_name : Cal P w K mg base 1 "is_name" spIsName [] := cal_mk F0 m0 b0 (ok_is_name F0 T)
  have c_check_name : Cal P w K mg base 2 "check_name" spCheckName [] := cal_mk F1 m1 b1 (ok_check_name F1 c_is_name)
  have c_check_divisor : Cal P w K mg base 1 "check_divisor" spCheckDiv [] := cal_mk F2 m2 b2 (ok_check_divisor F2)
  have m_Value : C8.Mak P w K mg base 1 "Value" C (spInit C) [] := ⟨f30, _, _, [], ⟨mk, a30, i30, kc⟩, ok_init F30 T, PySem.W.mg_of X G aC, b30, .nil⟩
  have c_named : Cal P w K mg base 3 "named" (spNamed C) [] := cal_mk F3 m3 b3 (ok_named F3 c_check_name m_Value)
  have c_now : Cal P w K mg base 3 "now" (spNow C) [] := cal_mk F4 m4 b4 (ok_now F4 c_check_name m_Value)
  have c_passed : Cal P w K mg base 3 "passed" (spPassed C) [] := cal_mk F5 m5 b5 (ok_passed F5 m_Value)
  have c_number : Cal P w K mg base 3 "number" (spNumber C) [] := cal_mk F6 m6 b6 (ok_number F6 m_Value)
  have c_value_of : Cal P w K mg base 4 "value_of" (spValueOf C) [] := cal_mk F7 m7 b7 (ok_value_of F7 T c_number)
  have x_add : OwnOp P w K mg base 5 C .Add (spBin C [43]) := ⟨f31, _, _, sf, a31, i31, ok___add__ F31 c_value_of m_Value, b31⟩
  have x_sub : OwnOp P w K mg base 5 C .Sub (spBin C [45]) := ⟨f32, _, _, sf, a32, i32, ok___sub__ F32 c_value_of m_Value, b32⟩
  have x_mul : OwnOp P w K mg base 5 C .Mult (spBin C [42]) := ⟨f33, _, _, sf, a33, i33, ok___mul__ F33 c_value_of m_Value, b33⟩
  have x_and : OwnOp P w K mg base 5 C .BitAnd (spBin C [38]) := ⟨f34, _, _, sf, a34, i34, ok___and__ F34 c_value_of m_Value, b34⟩
  have x_or : OwnOp P w K mg base 5 C .BitOr (spBin C [124]) := ⟨f35, _, _, sf, a35, i35, ok___or__ F35 c_value_of m_Value, b35⟩
  have x_floordiv : OwnOpI P w K mg base 5 C .FloorDiv (spDiv C [47, 47]) := ⟨f36, _, _, fo, ro, rc, sf, a36, i36, rf, rcs, if1, if2, si, ok___floordiv__ F36 c_check_divisor c_number m_Value, b36⟩
  have x_invert : OwnUn P w K mg base 5 C (spNeg C) := ⟨f37, _, _, a37, i37, ok___invert__ F37 m_Value, b37⟩
  have x_rest : C8.Met P w K mg base 5 C "rest" (spDiv C [109, 111, 100]) [] := ⟨f38, _, _, [], cl, ⟨a38, i38, k38⟩, ok_rest F38 c_check_divisor c_number m_Value, b38, .nil⟩
  have x_same : C8.Met P w K mg base 5 C "same" (spBin C [61]) [] := ⟨f39, _, _, [], cl, ⟨a39, i39, k39⟩, ok_same F39 c_value_of m_Value, b39, .nil⟩
  have x_less : C8.Met P w K mg base 5 C "less" (spBin C [60]) [] := ⟨f40, _, _, [], cl, ⟨a40, i40, k40⟩, ok_less F40 c_value_of m_Value, b40, .nil⟩
  have r_show_value : ∀ n : Nat, Cal P w K mg base (n) "show_value" (spShow C n) [] := fun n => by
    induction n with
    | zero => exact cal_none F8 m8 b8 fun vs H Q E ⟨t, v, _, _, h0, _⟩ => Nat.not_lt_zero _ h0
    | succ n ih => exact cal_mk F8 m8 b8 (ok_show F8 T ih)
  have c_show_value : Cal P w K mg base 13 "show_value" (spShow C 13) [] := r_show_value 13
  have c_is_number : Cal P w K mg base 1 "is_number" spIsNum [] := cal_mk F9 m9 b9 (ok_is_number F9 T)
  have c_split_words : Cal P w K mg base 1 "split_words" spSplit [] := cal_mk F10 m10 b10 (ok_split_words F10)
  have r_value_in : ∀ n : Nat, Cal P w K mg base (n + 6) "value_in" (spVin C n) [] := fun n => by
    induction n with
    | zero => exact cal_none F11 m11 b11 fun vs H Q E ⟨l, _, h0, _⟩ => Nat.not_lt_zero _ h0
    | succ n ih => exact cal_mk F11 m11 b11 (ok_value_in F11 T ih c_is_name c_is_number c_passed c_named c_now c_number c_split_words x_invert m_Value)
  have c_value_in : Cal P w K mg base 19 "value_in" (spVin C 13) [] := r_value_in 13
  have c_value_of_text : Cal P w K mg base 20 "value_of_text" (spVot C) [] := cal_mk F12 m12 b12 (ok_value_of_text F12 T c_value_in c_show_value)
  have c__law_integer : Cal P w K mg base 1 "_law_integer" spLawInt [] := cal_mk F20 m20 b20 (ok_law_integer F20 T)
  have c__law_run_of : Cal P w K mg base 1 "_law_run_of" spRun [] := cal_mk F21 m21 b21 (ok_law_run_of F21 T)
  have c__law_name_end : Cal P w K mg base 2 "_law_name_end" spNameEnd [] := cal_mk F22 m22 b22 (ok_law_name_end F22 T c__law_run_of)
  have r__law_ends : ∀ n : Nat, Cal P w K mg base (n + 2) "_law_ends" (spEnds n) [] := fun n => by
    induction n with
    | zero => exact cal_none F23 m23 b23 fun vs H Q E ⟨l, a, _, h0, _⟩ => Nat.not_lt_zero _ h0
    | succ n ih => exact cal_mk F23 m23 b23 (ok_law_ends F23 T ih c__law_name_end c__law_run_of c__law_integer)
  have c__law_ends : Cal P w K mg base 15 "_law_ends" (spEnds 13) [] := r__law_ends 13
  have c__law_is_value : Cal P w K mg base 16 "_law_is_value" spIsVal [] := cal_mk F24 m24 b24 (ok_law_is_value F24 T c__law_ends)
  have c__law_draw : Cal P w K mg base 1 "_law_draw" spDraw [] := cal_mk F15 m15 b15 (ok_law_draw F15 T)
  have c__law_leaf : Cal P w K mg base 2 "_law_leaf" spLeaf [] := cal_mk F16 m16 b16 (ok_law_leaf F16 T c__law_draw)
  have r__law_long : ∀ n : Nat, Cal P w K mg base (n + 2) "_law_long" (spLong n) [] := fun n => by
    induction n with
    | zero => exact cal_none F17 m17 b17 fun vs H Q E ⟨a, ln, ws, s, m, _, h0, _⟩ => Nat.not_lt_zero _ h0
    | succ n ih => exact cal_mk F17 m17 b17 (ok_law_long F17 T c__law_draw c__law_leaf ih)
  have c__law_long : Cal P w K mg base 8 "_law_long" (spLong 6) [] := r__law_long 6
  have r__law_value : ∀ n : Nat, Cal P w K mg base (2 * n + 6) "_law_value" (spLV C n) [] := fun n => by
    induction n with
    | zero => exact cal_none F19 m19 b19 fun vs H Q E ⟨t, v, _, _, _, h0, _⟩ => Nat.not_lt_zero _ h0
    | succ n ih => exact cal_mk F19 m19 b19 (ok_law_value F19 T ih (cal_mk F18 m18 b18 (ok_law_part F18 T ih)) c_named c_now c_passed c_number x_add x_sub x_mul x_and x_or x_floordiv x_invert x_rest x_same x_less)
  have c__law_value : Cal P w K mg base 18 "_law_value" (spLV C 6) [] := r__law_value 6
  have c__law_odd : Cal P w K mg base 2 "_law_odd" spOdd [] := cal_mk F26 m26 b26 (ok_law_odd F26 T c__law_draw)
  have c__law_bent : Cal P w K mg base 3 "_law_bent" spBent [] := cal_mk F27 m27 b27 (ok_law_bent F27 T c__law_draw c__law_odd)
  have G_init := ok_rinit (P := P) (w := w) (base := base) F41 X1
  have G_read := ok_read_value (C := C) F13 X1 G_init b41 c_value_of_text
  have kw : ∀ (s : Shared) (ws : List Value), ws.length = (["text"] : List Str).length → BindsTo s _ ⟨[], (["text"] : List Str).zip ws⟩ ((["text"] : List Str).zip ws) := fun s ws hl => match ws, hl with | [_], _ => BindsTo.of_eq (fd := PySem.W.fnOf "read_value" "read_value" (defArgs s_read_value) (defBody s_read_value) (defScope s_read_value) .none kV13 dc13 pm13 an13 cd13 ct13) rfl
  have c__law_caught : Cal P w K mg base 22 "_law_caught" spCaught [] := cal_mk F25 m25 b25 (ok_law_caught F25 T X1 G_read b13 m13 k13 kw c_show_value)
  have c__law_right : Cal P w K mg base 23 "_law_right" spRight [] := cal_mk F28 m28 b28 (ok_law_right F28 T c__law_draw c__law_long c__law_value c_show_value c__law_bent c__law_caught c__law_is_value)
  have c__law_pool : Cal P w K mg base 1 "_law_pool" (spPool (K := K)) [] := cal_mk F14 m14 b14 (ok_law_pool F14 T)
  exact ok_law F29 T c__law_pool c__law_right
theorem walk {l : PySem.W.OpenLaw} {q : Program} {loose : List Str} {XP : (Str → Option Value) → Heap → Prop} {YP : World → Heap → Prop} {d : DefRec} {K : Params → PySem.W.Frag} (hn : l.most = some 63) (hdf : d.params.defaults = [])
    (hY : ∀ (w : World) (h : Heap), YP w h → (K w.params).In h)
    (F : ∀ (w : World) (mg : Str → Option Value) (fa : Addr) (h : Heap), (K w.params).In h → h.Ns mainGlobals mg → mg d.name = some (.ref fa) →
      ∃ fd : FuncData, (∀ (s : Shared) (u : Value), BindsTo s fd ⟨[u], []⟩ [("script", u)]) ∧ ∀ base : Heap, (K w.params).In base → base.Ns mainGlobals mg → FnOk l.prog w (K w.params) mg base CX0 24 fa fd ["script"] (spLaw (K := K w.params))) :
    PySem.W.WalkO q loose XP YP l.row.toRowW d [] (fun f vs => PySem.call f vs) :=
  L2.walk_of (n := 63) (k := 24) (x := "script") (CX := fun _ => CX0) (sp := fun w => spLaw (K := K w.params)) hn (by decide) hdf ⟨rfl, by decide, by decide⟩ hY F (fun _ _ a ns hl _ hS => ⟨a, ns, rfl, hS, hl, fun _ => rfl⟩) fun _ _ _ _ _ z => z
end E60
open PySem PySem.W PyProof.Rows in
set_option maxRecDepth 100000 in
set_option maxHeartbeats 0 in
theorem PySem.Challenge.cw_elderruns_k60_values_that_are_none_holds : PySem.Challenge.rw_elderruns_k60_values_that_are_none.Holds := by
  w_on; o_law; k_head; (case hw => w_witness2)
  k_fill
  refine E60.walk (l := PySem.Challenge.rw_elderruns_k60_values_that_are_none) rfl rfl (fun w h Y => PySem.W.kIn_of Y) ?F
  case F =>
    intro w mg fa h KX G hmg
    refine' E60.all_mk KX G hmg ?a0 ?l0 ?c0 ?k0 ?a1 ?l1 ?c1 ?k1 ?a2 ?l2 ?c2 ?k2 ?a3 ?l3 ?c3 ?k3 ?a4 ?l4 ?c4 ?k4 ?a5 ?l5 ?c5 ?k5 ?a6 ?l6 ?c6 ?k6 ?a7 ?l7 ?c7 ?k7 ?a8 ?l8 ?c8 ?k8 ?a9 ?l9 ?c9 ?k9 ?a10 ?l10 ?c10 ?k10 ?a11 ?l11 ?c11 ?k11 ?a12 ?l12 ?c12 ?k12 ?a13 ?l13 ?c13 ?k13 ?a14 ?l14 ?c14 ?k14 ?a15 ?l15 ?c15 ?k15 ?a16 ?l16 ?c16 ?k16 ?a17 ?l17 ?c17 ?k17 ?a18 ?l18 ?c18 ?k18 ?a19 ?l19 ?c19 ?k19 ?a20 ?l20 ?c20 ?k20 ?a21 ?l21 ?c21 ?k21 ?a22 ?l22 ?c22 ?k22 ?a23 ?l23 ?c23 ?k23 ?a24 ?l24 ?c24 ?k24 ?a25 ?l25 ?c25 ?k25 ?a26 ?l26 ?c26 ?k26 ?a27 ?l27 ?c27 ?k27 ?a28 ?l28 ?c28 ?k28 ?a29 ?l29 ?c29 ?k29 ?a30 ?i30 ?l30 ?c30 ?k30 ?a31 ?i31 ?l31 ?c31 ?k31 ?a32 ?i32 ?l32 ?c32 ?k32 ?a33 ?i33 ?l33 ?c33 ?k33 ?a34 ?i34 ?l34 ?c34 ?k34 ?a35 ?i35 ?l35 ?c35 ?k35 ?a36 ?i36 ?l36 ?c36 ?k36 ?a37 ?i37 ?l37 ?c37 ?k37 ?a38 ?i38 ?l38 ?c38 ?k38 ?a39 ?i39 ?l39 ?c39 ?k39 ?a40 ?i40 ?l40 ?c40 ?k40 ?a41 ?i41 ?l41 ?c41 ?k41 ?z_len ?z_all ?z_isinstance ?z_str ?z_int ?z_abs ?z_max ?z_min ?z_range ?g_LETTERS ?g_DIGITS ?g_MD ?g_MS ?g_SIGNS ?l_SIGNS ?aC ?pg ?hd ?po ?sa ?mk ?kc ?n1 ?n2 ?n3 ?ca ?gs ?tk ?mo ?sf ?rf ?if1 ?if2 ?si ?aU ?aR ?aN ?aD ?xL ?Usa ?Uga ?Ugg ?Unv ?Uk ?Ue ?Ut ?Uh ?Uca ?Umo ?Re ?Rt ?Rh ?UR ?Nt ?Nh ?UN ?Dt ?Dh ?UD ?neN ?neD ?rcs
    (case aC => k_is)
    (case aU => k_is)
    (case aR => k_is)
    (case aN => k_is)
    (case aD => k_is)
    (case g_SIGNS => k_is)
    (case a0 => k_is)
    (case l0 => k_is)
    (case c0 => k_is)
    (case k0 => k_is)
    (case a1 => k_is)
    (case l1 => k_is)
    (case c1 => k_is)
    (case k1 => k_is)
    (case a2 => k_is)
    (case l2 => k_is)
    (case c2 => k_is)
    (case k2 => k_is)
    (case a3 => k_is)
    (case l3 => k_is)
    (case c3 => k_is)
    (case k3 => k_is)
    (case a4 => k_is)
    (case l4 => k_is)
    (case c4 => k_is)
    (case k4 => k_is)
    (case a5 => k_is)
    (case l5 => k_is)
    (case c5 => k_is)
    (case k5 => k_is)
    (case a6 => k_is)
    (case l6 => k_is)
    (case c6 => k_is)
    (case k6 => k_is)
    (case a7 => k_is)
    (case l7 => k_is)
    (case c7 => k_is)
    (case k7 => k_is)
    (case a8 => k_is)
    (case l8 => k_is)
    (case c8 => k_is)
    (case k8 => k_is)
    (case a9 => k_is)
    (case l9 => k_is)
    (case c9 => k_is)
    (case k9 => k_is)
    (case a10 => k_is)
    (case l10 => k_is)
    (case c10 => k_is)
    (case k10 => k_is)
    (case a11 => k_is)
    (case l11 => k_is)
    (case c11 => k_is)
    (case k11 => k_is)
    (case a12 => k_is)
    (case l12 => k_is)
    (case c12 => k_is)
    (case k12 => k_is)
    (case a13 => k_is)
    (case l13 => k_is)
    (case c13 => k_is)
    (case k13 => k_is)
    (case a14 => k_is)
    (case l14 => k_is)
    (case c14 => k_is)
    (case k14 => k_is)
    (case a15 => k_is)
    (case l15 => k_is)
    (case c15 => k_is)
    (case k15 => k_is)
    (case a16 => k_is)
    (case l16 => k_is)
    (case c16 => k_is)
    (case k16 => k_is)
    (case a17 => k_is)
    (case l17 => k_is)
    (case c17 => k_is)
    (case k17 => k_is)
    (case a18 => k_is)
    (case l18 => k_is)
    (case c18 => k_is)
    (case k18 => k_is)
    (case a19 => k_is)
    (case l19 => k_is)
    (case c19 => k_is)
    (case k19 => k_is)
    (case a20 => k_is)
    (case l20 => k_is)
    (case c20 => k_is)
    (case k20 => k_is)
    (case a21 => k_is)
    (case l21 => k_is)
    (case c21 => k_is)
    (case k21 => k_is)
    (case a22 => k_is)
    (case l22 => k_is)
    (case c22 => k_is)
    (case k22 => k_is)
    (case a23 => k_is)
    (case l23 => k_is)
    (case c23 => k_is)
    (case k23 => k_is)
    (case a24 => k_is)
    (case l24 => k_is)
    (case c24 => k_is)
    (case k24 => k_is)
    (case a25 => k_is)
    (case l25 => k_is)
    (case c25 => k_is)
    (case k25 => k_is)
    (case a26 => k_is)
    (case l26 => k_is)
    (case c26 => k_is)
    (case k26 => k_is)
    (case a27 => k_is)
    (case l27 => k_is)
    (case c27 => k_is)
    (case k27 => k_is)
    (case a28 => k_is)
    (case l28 => k_is)
    (case c28 => k_is)
    (case k28 => k_is)
    (case a29 => k_is)
    (case l29 => k_is)
    (case c29 => k_is)
    (case k29 => k_is)
    (case a30 => k_is)
    (case i30 => k_is)
    (case l30 => k_is)
    (case c30 => k_is)
    (case k30 => k_is)
    (case a31 => k_is)
    (case i31 => k_is)
    (case l31 => k_is)
    (case c31 => k_is)
    (case k31 => k_is)
    (case a32 => k_is)
    (case i32 => k_is)
    (case l32 => k_is)
    (case c32 => k_is)
    (case k32 => k_is)
    (case a33 => k_is)
    (case i33 => k_is)
    (case l33 => k_is)
    (case c33 => k_is)
    (case k33 => k_is)
    (case a34 => k_is)
    (case i34 => k_is)
    (case l34 => k_is)
    (case c34 => k_is)
    (case k34 => k_is)
    (case a35 => k_is)
    (case i35 => k_is)
    (case l35 => k_is)
    (case c35 => k_is)
    (case k35 => k_is)
    (case a36 => k_is)
    (case i36 => k_is)
    (case l36 => k_is)
    (case c36 => k_is)
    (case k36 => k_is)
    (case a37 => k_is)
    (case i37 => k_is)
    (case l37 => k_is)
    (case c37 => k_is)
    (case k37 => k_is)
    (case a38 => k_is)
    (case i38 => k_is)
    (case l38 => k_is)
    (case c38 => k_is)
    (case k38 => k_is)
    (case a39 => k_is)
    (case i39 => k_is)
    (case l39 => k_is)
    (case c39 => k_is)
    (case k39 => k_is)
    (case a40 => k_is)
    (case i40 => k_is)
    (case l40 => k_is)
    (case c40 => k_is)
    (case k40 => k_is)
    (case a41 => k_is)
    (case i41 => k_is)
    (case l41 => k_is)
    (case c41 => k_is)
    (case k41 => k_is)
    (case z_len => k_is)
    (case z_all => k_is)
    (case z_isinstance => k_is)
    (case z_str => k_is)
    (case z_int => k_is)
    (case z_abs => k_is)
    (case z_max => k_is)
    (case z_min => k_is)
    (case z_range => k_is)
    (case g_LETTERS => k_is)
    (case g_DIGITS => k_is)
    (case g_MD => k_is)
    (case g_MS => k_is)
    (case l_SIGNS => k_is)
    (case pg => k_is)
    (case hd => k_is)
    (case po => k_is)
    (case sa => k_is)
    (case mk => k_is)
    (case kc => k_is)
    (case n1 => k_is)
    (case n2 => k_is)
    (case n3 => k_is)
    (case ca => k_is)
    (case gs => k_is)
    (case tk => k_is)
    (case mo => k_is)
    (case sf => k_is)
    (case rf => k_is)
    (case if1 => k_is)
    (case if2 => k_is)
    (case si => k_is)
    (case xL => k_is)
    (case Usa => k_is)
    (case Uga => k_is)
    (case Ugg => k_is)
    (case Unv => k_is)
    (case Uk => k_is)
    (case Ue => k_is)
    (case Ut => k_is)
    (case Uh => k_is)
    (case Uca => k_is)
    (case Umo => k_is)
    (case Re => k_is)
    (case Rt => k_is)
    (case Rh => k_is)
    (case UR => k_is)
    (case Nt => k_is)
    (case Nh => k_is)
    (case UN => k_is)
    (case Dt => k_is)
    (case Dh => k_is)
    (case UD => k_is)
    (case neN => decide)
    (case neD => decide)
    (case rcs => exact Or.inl rfl)
