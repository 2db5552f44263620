import PyProof.Rows.All
import Wide.All
import OpenK.AllK
import Wide.FinOn
import HandS.ForMost
import HandS.ForExc
import HandS.Evl
import HandS.SortInts
import HandS.IsInst
import HandS.Deep
import HandS.Text
import PySem.Challenge.RW_tickdivide_k11_whole_none_is_nearer
set_option Elab.async false
set_option linter.all false
set_option maxRecDepth 100000
set_option maxHeartbeats 5000000
/-! What an object is told to be may be told otherwise ahead of a call and behind it: the drawing list is told by what stays true of it. -/
namespace TD
open PySem PySem.Spec PyProof.Rows L2

/-- the same heap, told otherwise -/
inductive Swaps (P : Program) (w : World) (hp : Heap) : Hp → Hp → Prop where
  | refl (H : Hp) : Swaps P w hp H H
  | step {H H2 : Hp} {x : Addr} {o : HO} : Mut (H x) → ObjOk P w (upd H x o) hp x o → Swaps P w hp (upd H x o) H2 → Swaps P w hp H H2

theorem Swaps.none {P : Program} {w : World} {hp : Heap} {H H2 : Hp} (z : Swaps P w hp H H2) : ∀ b, H b = Option.none → H2 b = Option.none := by
  induction z with
  | refl H => exact fun _ h => h
  | step mu _ _ ih =>
    intro b hb
    refine ih b ?_
    rw [upd_ne (fun e => by subst e; rw [hb] at mu; exact mu)]
    exact hb
theorem Swaps.hok {P : Program} {w : World} {hp : Heap} {H H2 : Hp} (z : Swaps P w hp H H2) : HOk P w H hp → HOk P w H2 hp := by
  induction z with
  | refl H => exact fun h => h
  | step mu new _ ih =>
    intro ok
    exact ih (ok.write mu (.inl rfl) (fun _ _ _ e => e) (objOk_get new) new)
theorem Swaps.un {P : Program} {w : World} {hp : Heap} {fs : List Addr} {H H2 : Hp} (z : Swaps P w hp H H2) : Un fs [] H H2 hp hp := by
  induction z with
  | refl H => exact Un.refl
  | step mu new _ ih => exact (Un.write mu (.inl rfl) (fun _ _ _ e => e) (objOk_get new)).trans ih

section
variable {P : Program} {w : World} {K : PySem.W.Frag} {mg : Str → Option Value} {base : Heap} {k : Nat} {f : Addr} {fd : FuncData} {ps : List Str} {sp sp' : Sp}
theorem view (F : FnOk P w K mg base CX0 k f fd ps sp) (len : ∀ vs H Q E, sp' vs H Q E → vs.length = ps.length)
    (conv : ∀ vs H Q E hp, sp' vs H Q E → HOk P w H hp → ∃ H1 Q1, Swaps P w hp H H1 ∧ sp vs H1 Q1 E ∧ ∀ v H1' hp', HOk P w H1' hp' → Q1 v H1' → ∃ H', Swaps P w hp' H1' H' ∧ Q v H') :
    FnOk P w K mg base CX0 k f fd ps sp' := by
  refine ⟨len, fun A outer s H args us vs Q E hr e0 hb hv hs => ?_⟩
  obtain ⟨H1, Q1, z, h1, back⟩ := conv vs H Q E s.heap hs e0.hok
  have e1 : Env0 P w K mg base A outer s H1 := ⟨e0.frames, e0.mod, fun b o e => ⟨(e0.bs b o e).1, z.none b (e0.bs b o e).2⟩, e0.bsz, e0.funs, fun b hb => z.none b (e0.frf b hb), z.hok e0.hok, e0.bare⟩
  refine codeAny_mono (F.run A outer s H1 args us vs Q1 E hr e1 hb hv h1) fun r s' hq => ?_
  cases r with
  | error e => exact hq
  | ok fl =>
    cases fl with
    | ret u =>
      obtain ⟨v, H1', os, bare, un, hok, rv, q⟩ := hq
      obtain ⟨H', z', q'⟩ := back v H1' s'.heap hok q
      exact ⟨v, H', os, bare, (z.un.trans un).trans z'.un, z'.hok hok, rv, q'⟩
    | next => exact hq
    | brk => exact hq
    | cont => exact hq
/-- no exception leaves: so what leaves is what is wanted -/
theorem up (F : FnOk P w K mg base CX0 k f fd ps sp) : FnOk P w K mg base (L2.CX P w) k f fd ps sp :=
  ⟨F.len, fun A outer s H args us vs Q E hr e0 hb hv hs => codeAny_mono (F.run A outer s H args us vs Q E hr e0 hb hv hs) fun r s' hq => by
    cases r with
    | error e => exact False.elim hq
    | ok fl =>
      cases fl with
      | ret u => exact hq
      | next => exact hq
      | brk => exact hq
      | cont => exact hq⟩
end

/-! ### the drawing list: a number, the cells, a place -/
def phiH (h l : Addr) : Heap → Prop := fun hp => ∃ (m p : Int) (t u : Tok) (n : Nat), hp.get? h = some { cls := .type "list", data := .seq #[.int m t, .ref l, .int p u] n }
def phiL (l : Addr) : Heap → Prop := fun hp => ∃ (cs : List Int) (its : List Value) (n : Nat), cs.length ≤ 63 ∧ Vals (cs.map V.int) its ∧ hp.get? l = some { cls := .type "list", data := .seq its.toArray n }
def Rng (H : Hp) (h : Addr) : Prop := ∃ l, h ≠ l ∧ H h = some (.ext (phiH h l)) ∧ H l = some (.ext (phiL l))
theorem Rng.ext {H H' : Hp} {h : Addr} (r : Rng H h) (e : ∀ a o, H a = some o → H' a = some o) : Rng H' h := by
  obtain ⟨l, n, h1, h2⟩ := r
  exact ⟨l, n, e _ _ h1, e _ _ h2⟩
/-- the three things -/
def h3 (m : Int) (l : Addr) (p : Int) : HO := .lst [.int m, .ref l, .int p]
def hL (cs : List Int) : HO := .lst (cs.map V.int)
theorem upd_comm {H : Hp} {a b : Addr} {o u : HO} (h : a ≠ b) : upd (upd H a o) b u = upd (upd H b u) a o := by
  funext c
  unfold upd
  by_cases h1 : c = a
  · subst h1
    rw [if_neg h]
    simp
  · by_cases h2 : c = b
    · subst h2
      simp [h1]
    · simp [h1, h2]
theorem upd_at {H : Hp} {a : Addr} {o : HO} (h : H a = some o) : upd H a o = H := by
  funext b
  unfold upd
  by_cases e : b = a
  · subst e
    rw [if_pos rfl, h]
  · rw [if_neg e]
theorem okL {P : Program} {w : World} {H : Hp} {hp : Heap} {l : Addr} {cs : List Int} (hl : cs.length ≤ 63) (h : ObjOk P w H hp l (hL cs)) : phiL l hp := by
  obtain ⟨_, its, n, r, e⟩ := h
  exact ⟨cs, its, n, hl, r, e⟩
theorem okH {P : Program} {w : World} {H : Hp} {hp : Heap} {h l : Addr} {m p : Int} (x : ObjOk P w H hp h (h3 m l p)) : phiH h l hp := by
  obtain ⟨_, its, n, r, e⟩ := x
  cases r with
  | cons r1 r =>
    cases r with
    | cons r2 r =>
      cases r with
      | cons r3 r =>
        cases r
        obtain ⟨t, rfl⟩ := r1
        obtain ⟨u, rfl⟩ := r3
        cases r2
        exact ⟨m, p, t, u, n, e⟩
theorem extH {P : Program} {w : World} {H : Hp} {hp : Heap} {h l : Addr} (x : phiH h l hp) : ObjOk P w H hp h (.ext (phiH h l)) := by
  refine ⟨x, ?_, fun h1 h2 q k => ?_⟩
  · obtain ⟨_, _, _, _, _, e⟩ := x
    exact ⟨_, e⟩
  · obtain ⟨m, p, t, u, n, e⟩ := q
    exact ⟨m, p, t, u, n, k _ e⟩
theorem extL {P : Program} {w : World} {H : Hp} {hp : Heap} {l : Addr} (x : phiL l hp) : ObjOk P w H hp l (.ext (phiL l)) := by
  refine ⟨x, ?_, fun h1 h2 q k => ?_⟩
  · obtain ⟨_, _, _, _, _, e⟩ := x
    exact ⟨_, e⟩
  · obtain ⟨cs, its, n, a, r, e⟩ := q
    exact ⟨cs, its, n, a, r, k _ e⟩

section
variable {P : Program} {w : World} {K : PySem.W.Frag} {mg : Str → Option Value} {base : Heap} {k : Nat} {f : Addr} {fd : FuncData}
/-- the next draw, told by the lists themselves -/
def spNext0 : Sp := fun vs H Q _ => ∃ (h l : Addr) (m p many : Int) (cs : List Int), vs = [.ref h, .int many] ∧ h ≠ l ∧ H h = some (h3 m l p) ∧ H l = some (hL cs) ∧ cs.length ≤ 63 ∧ 0 < many ∧ many < 1073741824 ∧
  ∀ (r m' p' : Int) (cs' : List Int) (H' : Hp), 0 ≤ r → r < many → cs'.length ≤ 63 → (∀ b o, H b = some o → b ≠ h → b ≠ l → H' b = some o) → H' h = some (h3 m' l p') → H' l = some (hL cs') → Q (.int r) H'
/-- the next draw: a number below; nothing that is told changes -/
def spNext : Sp := fun vs H Q _ => ∃ (h : Addr) (many : Int), vs = [.ref h, .int many] ∧ Rng H h ∧ 0 < many ∧ many < 1073741824 ∧ ∀ r H', 0 ≤ r → r < many → (∀ b o, H b = some o → H' b = some o) → Q (.int r) H'
theorem next_view (F : FnOk P w K mg base CX0 k f fd ["_law_h", "_law_many"] spNext0) : FnOk P w K mg base CX0 k f fd ["_law_h", "_law_many"] spNext := by
  refine view F (fun vs H Q E h => by obtain ⟨h, many, rfl, _⟩ := h; rfl) fun vs H Q E hp hs ok => ?_
  obtain ⟨h, many, rfl, ⟨l, hne, e1, e2⟩, p1, p2, q⟩ := hs
  obtain ⟨⟨m, p, t, u, n, g1⟩, _⟩ := ok h _ e1
  obtain ⟨⟨cs, its, n2, hc, rc, g2⟩, _⟩ := ok l _ e2
  refine ⟨upd (upd H h (h3 m l p)) l (hL cs), fun v H' => ∃ (r m' p' : Int) (cs' : List Int), v = .int r ∧ 0 ≤ r ∧ r < many ∧ cs'.length ≤ 63 ∧ (∀ b o, H b = some o → b ≠ h → b ≠ l → H' b = some o) ∧ H' h = some (h3 m' l p') ∧ H' l = some (hL cs'), ?_, ?_, ?_⟩
  · refine .step (x := h) (o := h3 m l p) (by rw [e1]; trivial) ⟨by show 3 ≤ sizeLine; decide, [.int m t, .ref l, .int p u], n, .cons ⟨t, rfl⟩ (.cons rfl (.cons ⟨u, rfl⟩ .nil)), g1⟩ ?_
    refine .step (x := l) (o := hL cs) (by rw [upd_ne (Ne.symm hne), e2]; trivial) ⟨by rw [List.length_map]; exact Nat.le_trans hc (by decide), its, n2, rc, g2⟩ (.refl _)
  · refine ⟨h, l, m, p, many, cs, rfl, hne, by rw [upd_ne hne, upd_same], upd_same, hc, p1, p2, fun r m' p' cs' H' r1 r2 hc' st q1 q2 => ⟨r, m', p', cs', rfl, r1, r2, hc', fun b o hb n1 n2 => st b o (by rw [upd_ne n2, upd_ne n1]; exact hb) n1 n2, q1, q2⟩⟩
  · rintro v H1' hp' ok' ⟨r, m', p', cs', rfl, r1, r2, hc', st, f1, f2⟩
    have a1 := okH (ok' h (h3 m' l p') f1)
    have a2 := okL hc' (ok' l (hL cs') f2)
    refine ⟨upd (upd H1' h (.ext (phiH h l))) l (.ext (phiL l)), ?_, q r _ r1 r2 fun b o hb => ?_⟩
    · refine .step (x := h) (o := .ext (phiH h l)) (by rw [f1]; trivial) (extH a1) ?_
      exact .step (x := l) (o := .ext (phiL l)) (by rw [upd_ne (Ne.symm hne), f2]; trivial) (extL a2) (.refl _)
    · by_cases h1 : b = l
      · subst h1
        rw [upd_same, ← e2]
        exact hb
      · rw [upd_ne h1]
        by_cases h2 : b = h
        · subst h2
          rw [upd_same, ← e1]
          exact hb
        · rw [upd_ne h2]
          exact st b o hb h2 h1
/-- what is drawn from, made of the script -/
def spMix0 (K : PySem.W.Frag) : Sp := fun vs H Q _ => ∃ (a : Addr) (ns : List Int) (seed : Int), vs = [.ref a, .int seed] ∧ SqL K H a (ns.map V.int) ∧ ns.length ≤ 63 ∧
  ∀ (h l : Addr) (m : Int) (H' : Hp), (∀ b o, H b = some o → H' b = some o) → H h = none → H l = none → h ≠ l → H' h = some (h3 m l 0) → H' l = some (hL ns) → Q (.ref h) H'
def spMix (K : PySem.W.Frag) : Sp := fun vs H Q _ => ∃ (a : Addr) (ns : List Int) (seed : Int), vs = [.ref a, .int seed] ∧ SqL K H a (ns.map V.int) ∧ ns.length ≤ 63 ∧
  ∀ (h : Addr) (H' : Hp), (∀ b o, H b = some o → H' b = some o) → Rng H' h → Q (.ref h) H'
theorem mix_view (F : FnOk P w K mg base CX0 k f fd ["_law_script", "_law_seed"] (spMix0 K)) : FnOk P w K mg base CX0 k f fd ["_law_script", "_law_seed"] (spMix K) := by
  refine view F (fun vs H Q E h => by obtain ⟨a, ns, seed, rfl, _⟩ := h; rfl) fun vs H Q E hp hs ok => ?_
  obtain ⟨a, ns, seed, rfl, hS, hl, q⟩ := hs
  refine ⟨H, fun v H' => ∃ (h l : Addr) (m : Int), v = .ref h ∧ (∀ b o, H b = some o → H' b = some o) ∧ H h = none ∧ H l = none ∧ h ≠ l ∧ H' h = some (h3 m l 0) ∧ H' l = some (hL ns), .refl _, ?_, ?_⟩
  · exact ⟨a, ns, seed, rfl, hS, hl, fun h l m H' e n1 n2 ne e1 e2 => ⟨h, l, m, rfl, e, n1, n2, ne, e1, e2⟩⟩
  · rintro v H1' hp' ok' ⟨h, l, m, rfl, e, n1, n2, hne, e1, e2⟩
    have a1 := okH (ok' h (h3 m l 0) e1)
    have a2 := okL hl (ok' l (hL ns) e2)
    refine ⟨upd (upd H1' h (.ext (phiH h l))) l (.ext (phiL l)), ?_, q h _ (fun b o hb => ?_) ⟨l, hne, ?_, upd_same⟩⟩
    · refine .step (x := h) (o := .ext (phiH h l)) (by rw [e1]; trivial) (extH a1) ?_
      exact .step (x := l) (o := .ext (phiL l)) (by rw [upd_ne (Ne.symm hne), e2]; trivial) (extL a2) (.refl _)
    · rw [upd_ne (ne_of_none hb n2), upd_ne (ne_of_none hb n1)]
      exact e b o hb
    · rw [upd_ne hne, upd_same]
end
end TD

namespace TD
open PySem PySem.Spec PyProof.Rows L2

/-! ### names of the built-in part -/
structure Blt (mg : Str → Option Value) : Prop where
  len : mg "len" = none
  range : mg "range" = none
  list : mg "list" = none
  sum : mg "sum" = none
  zip : mg "zip" = none
  max : mg "max" = none
  min : mg "min" = none
  sorted : mg "sorted" = none
  set : mg "set" = none
  dict : mg "dict" = none
  enumerate : mg "enumerate" = none
  divmod : mg "divmod" = none
  isinstance : mg "isinstance" = none
  int : mg "int" = none
  str : mg "str" = none
  bool : mg "bool" = none
  tuple : mg "tuple" = none
theorem bt_max : bootBuiltins "max" = some (.builtin "max") := by decide +kernel
theorem bt_min : bootBuiltins "min" = some (.builtin "min") := by decide +kernel
theorem bt_sum : bootBuiltins "sum" = some (.builtin "sum") := by decide +kernel
theorem bt_divmod : bootBuiltins "divmod" = some (.builtin "divmod") := by decide +kernel
theorem bt_isinstance : bootBuiltins "isinstance" = some (.builtin "isinstance") := by decide +kernel
theorem bt_sorted : bootBuiltins "sorted" = some (.builtin "sorted") := by decide +kernel
theorem bt_list : bootBuiltins "list" = some (.type "list") := by decide +kernel
theorem bt_set : bootBuiltins "set" = some (.type "set") := by decide +kernel
theorem bt_dict : bootBuiltins "dict" = some (.type "dict") := by decide +kernel
theorem bt_int : bootBuiltins "int" = some (.type "int") := by decide +kernel
theorem bt_str : bootBuiltins "str" = some (.type "str") := by decide +kernel
theorem bt_bool : bootBuiltins "bool" = some (.type "bool") := by decide +kernel
theorem bt_tuple : bootBuiltins "tuple" = some (.type "tuple") := by decide +kernel

/-! ### a def as its callers know it -/
structure Dn (P : Program) (w : World) (K : PySem.W.Frag) (mg : Str → Option Value) (base : Heap) (k : Nat) (x : Str) (sp : Sp) : Prop where
  ex : ∃ (f : Addr) (fd : FuncData) (ps : List Str), FnOk P w K mg base (L2.CX P w) k f fd ps sp ∧ mg x = some (.ref f) ∧ PySem.W.keepIn K (.ref f) = true ∧ Binds K fd ps []
theorem Dn.of0 {P : Program} {w : World} {K : PySem.W.Frag} {mg : Str → Option Value} {base : Heap} {k : Nat} {x : Str} {sp : Sp} {f : Addr} {fd : FuncData} {ps : List Str} (F : FnOk P w K mg base CX0 k f fd ps sp)
    (hm : mg x = some (.ref f)) (hk : PySem.W.keepIn K (.ref f) = true) (hb : Binds K fd ps []) : Dn P w K mg base k x sp := ⟨f, fd, ps, up F, hm, hk, hb⟩
theorem Dn.of {P : Program} {w : World} {K : PySem.W.Frag} {mg : Str → Option Value} {base : Heap} {k : Nat} {x : Str} {sp : Sp} {f : Addr} {fd : FuncData} {ps : List Str} (F : FnOk P w K mg base (L2.CX P w) k f fd ps sp)
    (hm : mg x = some (.ref f)) (hk : PySem.W.keepIn K (.ref f) = true) (hb : Binds K fd ps []) : Dn P w K mg base k x sp := ⟨f, fd, ps, F, hm, hk, hb⟩
theorem Dn.mono {P : Program} {w : World} {K : PySem.W.Frag} {mg : Str → Option Value} {base : Heap} {j k : Nat} {x : Str} {sp : Sp} (c : Dn P w K mg base j x sp) (h : j ≤ k) : Dn P w K mg base k x sp := by
  obtain ⟨f, fd, ps, F, r⟩ := c.ex
  exact ⟨f, fd, ps, F.mono h, r⟩
theorem Dn.imp {P : Program} {w : World} {K : PySem.W.Frag} {mg : Str → Option Value} {base : Heap} {k : Nat} {x : Str} {sp sp' : Sp} (c : Dn P w K mg base k x sp) (h : ∀ vs H Q E, sp' vs H Q E → sp vs H Q E) : Dn P w K mg base k x sp' := by
  obtain ⟨f, fd, ps, F, r⟩ := c.ex
  exact ⟨f, fd, ps, F.imp h, r⟩
section
variable {X : Cx} {j k : Nat} {x : Str} {sp : Sp} {E : XK} {p pos : Pos} {e : Expr} {es : List Expr} {t : TA}
theorem pe_d (c : Dn X.prog X.w X.K X.mg X.base k x sp) (hr : Room j X.A) (hk : k ≤ j) (hx : Passes (L2.CX X.prog X.w) X E) (hg : Gl X x) (ha : PA X (e :: es) t)
    (hdb : (x == ("__debug__" : Str)) = false := by decide) (he : starEach (e :: es) X.env = (false, eval e X.env) :: starEach es X.env := by rfl) (hpl : (backTo pos (starEach es X.env)).any (·.1) = false := by rfl) :
    PE X (.Call (.Name x p) (e :: es) [] pos) (tCall sp [] E t) := by
  obtain ⟨f, fd, ps, F, hm, hk', hb⟩ := c.ex
  exact pe_call F (hr.mono hk) hg hm hk' hb .nil hx ha hdb he hpl
/-- a constant of the module -/
theorem pe_gl {v : V} (hg : Gl X x) (h : ∃ u, X.mg x = some u ∧ RelV v u) (hd : (x == ("__debug__" : Str)) = false := by decide) : PE X (.Name x pos) (tC v) := by
  obtain ⟨u, hm, r⟩ := h
  exact pe_glob hg hm r hd
end

/-! ### extending heaps -/
abbrev Ex (H H' : Hp) : Prop := ∀ a o, H a = some o → H' a = some o
theorem Ex.refl (H : Hp) : Ex H H := fun _ _ h => h
theorem Ex.trans {H H1 H2 : Hp} (a : Ex H H1) (b : Ex H1 H2) : Ex H H2 := fun x o h => b x o (a x o h)
theorem Ex.new {H : Hp} {p : Addr} {o : HO} (h : H p = none) : Ex H (upd H p o) := fun a u e => by
  rw [upd_ne (ne_of_none e h)]
  exact e
theorem Ex.mut {H H' : Hp} {p : Addr} {o : HO} (e : Ex H H') (h : H p = none) : Ex H (upd H' p o) := fun a u ha => by
  rw [upd_ne (ne_of_none ha h)]
  exact e a u ha
theorem Ex.back {H H' : Hp} {p : Addr} (e : Ex H H') (h : H' p = none) : H p = none := by
  cases h1 : H p with
  | none => rfl
  | some o =>
    rw [e p o h1] at h
    cases h
theorem Ex.sqL {K : PySem.W.Frag} {H H' : Hp} {a : Addr} {xs : List V} (e : Ex H H') (h : SqL K H a xs) : SqL K H' a xs := Evl.ex_l e h
theorem Ex.sqT {K : PySem.W.Frag} {H H' : Hp} {a : Addr} {xs : List V} (e : Ex H H') (h : SqT K H a xs) : SqT K H' a xs := Evl.ex_t e h
mutual
theorem dp_ext {K : PySem.W.Frag} {H H' : Hp} (e : Ex H H') : ∀ {v : V} {d : PyData}, Dp K H v d → Dp K H' v d
  | _, _, .non => .non
  | _, _, .bl b => .bl b
  | _, _, .int i => .int i
  | _, _, .str x => .str x
  | _, _, .lst h a => .lst (e.sqL h) (dpAll_ext e a)
  | _, _, .tup h a => .tup (e.sqT h) (dpAll_ext e a)
theorem dpAll_ext {K : PySem.W.Frag} {H H' : Hp} (e : Ex H H') : ∀ {vs : List V} {ds : List PyData}, DpAll K H vs ds → DpAll K H' vs ds
  | _, _, .nil => .nil
  | _, _, .cons h a => .cons (dp_ext e h) (dpAll_ext e a)
end
theorem Ex.dp {K : PySem.W.Frag} {H H' : Hp} {v : V} {d : PyData} (e : Ex H H') (h : Dp K H v d) : Dp K H' v d := dp_ext e h
theorem Ex.dpAll {K : PySem.W.Frag} {H H' : Hp} {vs : List V} {ds : List PyData} (e : Ex H H') (h : DpAll K H vs ds) : DpAll K H' vs ds := dpAll_ext e h
/-- a list of ints, tracked -/
abbrev LI (H : Hp) (a : Addr) (ns : List Int) : Prop := H a = some (.lst (ns.map V.int))
theorem dpAll_ints {K : PySem.W.Frag} {H : Hp} : ∀ ns : List Int, DpAll K H (ns.map V.int) (ns.map PyData.int)
  | [] => .nil
  | n :: r => .cons (.int n) (dpAll_ints r)
theorem LI.dp {K : PySem.W.Frag} {H : Hp} {a : Addr} {ns : List Int} (h : LI H a ns) : Dp K H (.ref a) (.list (ns.map PyData.int)) := .lst (SqL.of h) (dpAll_ints ns)

theorem sq_upd {K : PySem.W.Frag} {H : Hp} {a : Addr} {xs : List V} : SqL K (upd H a (.lst xs)) a xs := SqL.of upd_same
theorem st_upd {K : PySem.W.Frag} {H : Hp} {a : Addr} {xs : List V} : SqT K (upd H a (.tup xs)) a xs := SqT.of upd_same
theorem upd_lst {H : Hp} {a : Addr} {xs : List V} : upd H a (.lst xs) a = some (.lst xs) := upd_same
theorem iteNSF {c A B : Prop} [Decidable c] (hc : ¬ c) (h : A) : if (!decide c) = true then A else B := by
  rw [decide_eq_false hc]
  exact h
/-! ### lists of ints compared -/
theorem lay_ints : ∀ ns : List Int, PyData.canLayAll0 (ns.map PyData.int) = true
  | [] => by simp [PyData.canLayAll0]
  | n :: r => by simp [PyData.canLayAll0, PyData.canLay0, lay_ints r]
theorem depth_ints : ∀ ns : List Int, PyData.depthAll (ns.map PyData.int) = 0
  | [] => by simp [PyData.depthAll]
  | n :: r => by simp [PyData.depthAll, PyData.depth, depth_ints r]
theorem shaped_ints (ns : List Int) : SeqAt.shaped (.list (ns.map PyData.int)) = true := by
  unfold SeqAt.shaped
  rw [Bool.and_eq_true]
  refine ⟨?_, ?_⟩
  · rw [PyData.canLay0]
    exact lay_ints ns
  · rw [PyData.depth, depth_ints]
    decide
theorem eqvAll_ints : ∀ xs ys : List Int, PyData.eqvAll (xs.map PyData.int) (ys.map PyData.int) = decide (xs = ys)
  | [], [] => by simp [PyData.eqvAll]
  | [], _ :: _ => by simp [PyData.eqvAll]
  | _ :: _, [] => by simp [PyData.eqvAll]
  | x :: xs, y :: ys => by
    simp only [List.map_cons, PyData.eqvAll, PyData.eqv, eqvAll_ints xs ys, List.cons.injEq]
    by_cases h : x = y <;> simp [h]
theorem eqv_ints (xs ys : List Int) : PyData.eqv (.list (xs.map PyData.int)) (.list (ys.map PyData.int)) = decide (xs = ys) := by
  rw [PyData.eqv, eqvAll_ints]
theorem dpAll_sqL {K : PySem.W.Frag} {H : Hp} {a : Addr} {ns : List Int} (h : SqL K H a (ns.map V.int)) : Dp K H (.ref a) (.list (ns.map PyData.int)) := .lst h (dpAll_ints ns)
def rEqLI (K : PySem.W.Frag) : R2 := fun x y H Q => ∃ (a b : Addr) (xs ys : List Int), x = .ref a ∧ y = .ref b ∧ SqL K H a (xs.map V.int) ∧ SqL K H b (ys.map V.int) ∧ Q (.bl (decide (xs = ys))) H
def rNeLI (K : PySem.W.Frag) : R2 := fun x y H Q => ∃ (a b : Addr) (xs ys : List Int), x = .ref a ∧ y = .ref b ∧ SqL K H a (xs.map V.int) ∧ SqL K H b (ys.map V.int) ∧ Q (.bl (!decide (xs = ys))) H
section
variable {X : Cx}
theorem op_eqLI (hu : X.A.units + 64 < cLine) : OpR X (compareOp .Eq) (rEqLI X.K) := fun pins s σ H x y v u Q I rx ry ⟨a, b, xs, ys, ex, ey, h1, h2, q⟩ =>
  op_eqD hu pins s σ H x y v u Q I rx ry ⟨_, _, by rw [ex]; exact dpAll_sqL h1, by rw [ey]; exact dpAll_sqL h2, shaped_ints xs, shaped_ints ys, by rw [eqv_ints]; exact q⟩
theorem op_neLI (hu : X.A.units + 64 < cLine) : OpR X (compareOp .NotEq) (rNeLI X.K) := fun pins s σ H x y v u Q I rx ry ⟨a, b, xs, ys, ex, ey, h1, h2, q⟩ =>
  op_neD hu pins s σ H x y v u Q I rx ry ⟨_, _, by rw [ex]; exact dpAll_sqL h1, by rw [ey]; exact dpAll_sqL h2, shaped_ints xs, shaped_ints ys, by rw [eqv_ints]; exact q⟩
end
/-- an empty list just laid -/
theorem sq_nil {K : PySem.W.Frag} {H : Hp} {n : Addr} : SqL K (upd H n (.lst [])) n (([] : List Int).map V.int) := SqL.of upd_same
end TD

/-! What the program's defs compute, in plain Lean. -/
namespace TD

def gcdZ (x y : Int) : Int := ((Int.gcd x y : Nat) : Int)
theorem gcdZ_mod {a b : Int} (ha : 0 ≤ a) (hb : 0 ≤ b) : gcdZ b (a % b) = gcdZ a b := by
  obtain ⟨n, rfl⟩ := Int.eq_ofNat_of_zero_le ha
  obtain ⟨m, rfl⟩ := Int.eq_ofNat_of_zero_le hb
  show ((Nat.gcd m (n % m) : Nat) : Int) = (Nat.gcd n m : Nat)
  rw [Nat.gcd_comm m, ← Nat.gcd_rec, Nat.gcd_comm]
def lcmZ (x y : Int) : Int := x / gcdZ x y * y

structure Form where
  front : List Int
  round : List Int
  len : Int
  deriving DecidableEq

/-- the gaps of a round -/
def gapsRound (ticks : List Int) (len : Int) : List Int := List.zipWith (fun soon late => late - soon) ticks (ticks.tail ++ [ticks.headD 0 + len])
/-- a part of the gaps that comes again and again -/
def partOk (gaps : List Int) (m : Nat) : Bool := decide (gaps.length % m = 0) && decide (gaps = (List.replicate (gaps.length / m) (gaps.take m)).flatten)
def leastFrom (gaps : List Int) : Nat → Nat → Nat
  | 0, m => m
  | n + 1, m => if partOk gaps m then m else leastFrom gaps n (m + 1)
def least (gaps : List Int) : Nat := leastFrom gaps gaps.length 1
/-- the front's last moments that are of the round; the front from its end -/
def rollBack (len : Int) : List Int → List Int → List Int × List Int
  | [], t => ([], t)
  | x :: r, t => if x + len = t.getLastD 0 then rollBack len r (x :: t.dropLast) else ((x :: r).reverse, t)
def settled (front ticks : List Int) (len : Int) : Form :=
  if ticks = [] then ⟨front, [], 0⟩ else
    let g := gapsRound ticks len
    let m := least g
    let l := (g.take m).sum
    let r := rollBack l front.reverse (ticks.take m)
    ⟨r.1, r.2, l⟩

def tickAt (f : Form) (n : Int) : Option Int :=
  if n < f.front.length then f.front[n.toNat]? else
  if f.round = [] then none else
    let i := n - f.front.length
    some (f.round.getD (i % f.round.length).toNat 0 + i / f.round.length * f.len)
def tickZ (f : Form) (n : Int) : Int := (tickAt f n).getD 0
def countBelow (l : List Int) (m : Int) : Int := (((l.filter fun x => decide (x < m)).length : Nat) : Int)
def countAhead (f : Form) (m : Int) : Int :=
  if f.round = [] ∨ m ≤ f.round.headD 0 then countBelow f.front m else
    countBelow f.front m + (m - f.round.headD 0) / f.len * f.round.length + (((f.round.filter fun x => decide (x - f.round.headD 0 < (m - f.round.headD 0) % f.len)).length : Nat) : Int)
def rangeZ (lo : Int) (n : Nat) : List Int := (List.range n).map fun (i : Nat) => lo + (i : Int)
def allAhead (f : Form) (m : Int) : List Int := (rangeZ 0 (countAhead f m).toNat).map (tickZ f)
def startOf (f : Form) : Int := if f.round ≠ [] then f.round.headD 0 else if f.front ≠ [] then f.front.getLastD 0 + 1 else 0

def bitAt (bits : List Bool) (n : Int) : Bool := bits.getD (n % bits.length).toNat false
def keptFrom (bits : List Bool) : Nat → List Int → List Int
  | _, [] => []
  | i, x :: r => if bitAt bits i then x :: keptFrom bits (i + 1) r else keptFrom bits (i + 1) r
def gated (f : Form) (bits : List Bool) : Option Form :=
  let kept := keptFrom bits 0 f.front
  if f.round = [] then some ⟨kept, [], 0⟩ else
    let many := lcmZ f.round.length bits.length
    let wide := f.len * (many / f.round.length)
    if wide > 5040 then none else
      some (settled kept (((rangeZ f.front.length many.toNat).filter (bitAt bits)).map (tickZ f)) wide)
def laterF (f : Form) (d : Int) : Form := ⟨f.front.map (· + d), f.round.map (· + d), f.len⟩

inductive Two where
  | either | both | but
  deriving DecidableEq
/-- a rising list put in order with another one, nothing twice -/
def insUp (x : Int) : List Int → List Int
  | [] => [x]
  | y :: r => if x < y then x :: y :: r else if x = y then y :: r else y :: insUp x r
def sortUp (l : List Int) : List Int := l.foldr insUp []
def joined (w : Two) (mine theirs : List Int) : List Int :=
  match w with
  | .either => sortUp (mine ++ theirs)
  | .both => mine.filter fun x => decide (x ∈ theirs)
  | .but => mine.filter fun x => !decide (x ∈ theirs)
def ofTwo (w : Two) (f g : Form) : Option Form :=
  let length := lcmZ (max 1 f.len) (max 1 g.len)
  if length > 5040 then none else
    let begin := max (startOf f) (startOf g)
    let found := joined w (allAhead f (begin + length)) (allAhead g (begin + length))
    let ahead := found.filter fun x => decide (x < begin)
    some (settled ahead (found.drop ahead.length) length)

/-- the first ticks, so many of them as there are, from a number on -/
def firstTicks (f : Form) : Nat → Nat → List Int
  | 0, _ => []
  | n + 1, i => match tickAt f i with
    | none => []
    | some x => x :: firstTicks f n (i + 1)
def ledForm (f : Form) (many : Nat) (g : Form) (first : Nat) : Form :=
  let mine := firstTicks f many 0
  let at_ : Int := if mine ≠ [] then max (first : Int) (countAhead g (mine.getLastD 0 + 1)) else first
  if g.round = [] then ⟨mine ++ g.front.drop at_.toNat, [], 0⟩ else
    let begin : Int := max at_ g.front.length
    settled (mine ++ g.front.drop at_.toNat) ((rangeZ begin g.round.length).map (tickZ g)) g.len

inductive Beat where
  | source
  | every (n k : Nat) (b : Beat)
  | gate (bits : List Bool) (b : Beat)
  | later (m : Nat) (b : Beat)
  | two (w : Two) (a b : Beat)
  | led (a : Beat) (many : Nat) (b : Beat) (first : Nat)

/-- what need_short is asked of a form -/
def lateOf (f : Form) : Int := (f.round.take 1 ++ (f.front.drop (f.front.length - 1)) ++ [0]).headD 0
def checked (f : Form) : Option Form := if lateOf f > 5040 then none else some f
def everyBits (n k : Nat) : List Bool := List.replicate k false ++ true :: List.replicate (n - 1 - k) false
def fm : Beat → Option Form
  | .source => checked ⟨[], [0], 1⟩
  | .every n k b => (fm b).bind fun f => (gated f (everyBits n k)).bind checked
  | .gate bits b => (fm b).bind fun f => (gated f bits).bind checked
  | .later m b => (fm b).bind fun f => checked (laterF f m)
  | .two w a b => (fm a).bind fun f => (fm b).bind fun g => (ofTwo w f g).bind checked
  | .led a many b first => (fm a).bind fun f => (fm b).bind fun g => checked (ledForm f many g first)

/-- how many tuples -/
def Beat.size : Beat → Nat
  | .source => 1
  | .every _ _ b | .gate _ b | .later _ b => b.size + 1
  | .two _ a b => a.size + b.size + 1
  | .led a _ b _ => a.size + b.size + 1
/-- its numbers and signs are right -/
def Beat.ok : Beat → Prop
  | .source => True
  | .every n k b => 1 ≤ n ∧ n ≤ 12 ∧ k < n ∧ b.ok
  | .gate bits b => 1 ≤ bits.length ∧ bits.length ≤ 12 ∧ b.ok
  | .later m b => m ≤ 99 ∧ b.ok
  | .two _ a b => a.ok ∧ b.ok
  | .led a many b first => many ≤ 9999 ∧ first ≤ 9999 ∧ a.ok ∧ b.ok
end TD
namespace TD
def evenBits (p q : Nat) : List Bool := (List.range q).map fun place => (List.range p).any fun k => k * q / p == place
end TD

namespace TD
open PySem PySem.Spec PyProof.Rows L2

/-- an exception's class over ValueError -/
structure ExC (K : PySem.W.Frag) (mg : Str → Option Value) (x : Str) (C : Addr) : Prop where
  gC : mg x = some (.ref C)
  q : PySem.W.excIn K C [.type "ValueError", .type "Exception", .type "BaseException", .type "object"] "ValueError.__new__" = true
  kC : PySem.W.keepIn K (.ref C) = true
  sB : PySem.W.subIn K (.ref C) (.type "BaseException") = some true
  tC : PySem.W.typeIn K (.ref C) = some (.type "type")

/-- a form stands at p: a tuple of two lists and a number -/
structure FormP (H : Hp) (v : V) (f : Form) (p a b : Addr) : Prop where
  v : v = .ref p
  t : H p = some (.tup [.ref a, .ref b, .int f.len])
  a : LI H a f.front
  b : LI H b f.round
def FormAt (H : Hp) (v : V) (f : Form) : Prop := ∃ p a b, FormP H v f p a b
theorem FormP.ext {H H' : Hp} {v : V} {f : Form} {p a b : Addr} (h : FormP H v f p a b) (e : Ex H H') : FormP H' v f p a b := ⟨h.v, e _ _ h.t, e _ _ h.a, e _ _ h.b⟩
theorem FormAt.ext {H H' : Hp} {v : V} {f : Form} (h : FormAt H v f) (e : Ex H H') : FormAt H' v f := let ⟨p, a, b, q⟩ := h; ⟨p, a, b, q.ext e⟩
/-- .. its lists new -/
def FormNew (H H' : Hp) (v : V) (f : Form) : Prop := ∃ p a b, FormP H' v f p a b ∧ H p = none ∧ H a = none ∧ H b = none ∧ a ≠ b
theorem FormNew.at {H H' : Hp} {v : V} {f : Form} (h : FormNew H H' v f) : FormAt H' v f := let ⟨p, a, b, q, _⟩ := h; ⟨p, a, b, q⟩
theorem FormNew.from {H0 H H' : Hp} {v : V} {f : Form} (h : FormNew H H' v f) (e : Ex H0 H) : FormNew H0 H' v f := let ⟨p, a, b, q, h1, h2, h3, h4⟩ := h; ⟨p, a, b, q, e.back h1, e.back h2, e.back h3, h4⟩
/-- a form is laid: its tuple last -/
theorem FormNew.lay {H H1 : Hp} {f : Form} {p a b : Addr} (e : Ex H H1) (hp : H1 p = none) (ha : LI H1 a f.front) (hb : LI H1 b f.round) (na : H a = none) (nb : H b = none) (h : a ≠ b) :
    FormNew H (upd H1 p (.tup [.ref a, .ref b, .int f.len])) (.ref p) f :=
  ⟨p, a, b, ⟨rfl, upd_same, Ex.new hp _ _ ha, Ex.new hp _ _ hb⟩, e.back hp, na, nb, h⟩
/-- .. in three steps -/
theorem FormNew.mk3 {H H1 H2 H3 : Hp} {f : Form} {a b p : Addr} (e0 : Ex H H1) (na : H a = none) (nb : H b = none) (np : H2 p = none) (h : a ≠ b) (e2 : Ex H1 H2) (e3 : Ex H2 H3) (ha : LI H2 a f.front) (hb : LI H2 b f.round)
    (hp : H3 p = some (.tup [.ref a, .ref b, .int f.len])) : FormNew H H3 (.ref p) f :=
  ⟨p, a, b, ⟨rfl, hp, e3 _ _ ha, e3 _ _ hb⟩, (e0.trans e2).back np, na, nb, h⟩
def optV : Option Int → V
  | none => .non
  | some n => .int n
end TD

/-! Readings in which a new object is told by «the heap grows, and it stands there». -/
namespace TD
open PySem PySem.Spec PyProof.Rows L2

theorem PE.imp {X : Cx} {e : Expr} {t t' : TE} (h : PE X e t) (i : ∀ σ H Q, t' σ H Q → t σ H Q) : PE X e t' := ⟨fun pins s σ H Q I q => h.run pins s σ H Q I (i σ H Q q)⟩
/-- a new list, a new tuple, a heap that has grown -/
def nL (H : Hp) (xs : List V) (Q : VK) : Prop := ∀ p H2, H p = none → Ex H H2 → H2 p = some (.lst xs) → Q (.ref p) H2
def nT (H : Hp) (xs : List V) (Q : VK) : Prop := ∀ p H2, H p = none → Ex H H2 → H2 p = some (.tup xs) → Q (.ref p) H2
def nE (H : Hp) (Q : Hp → Prop) : Prop := ∀ H2, Ex H H2 → Q H2
theorem nL.get {H : Hp} {xs : List V} {Q : VK} (h : nL H xs Q) : ∀ p, H p = none → Q (.ref p) (upd H p (.lst xs)) := fun p np => h p _ np (Ex.new np) upd_same
theorem nT.get {H : Hp} {xs : List V} {Q : VK} (h : nT H xs Q) : ∀ p, H p = none → Q (.ref p) (upd H p (.tup xs)) := fun p np => h p _ np (Ex.new np) upd_same
theorem nL_intro {H : Hp} {xs : List V} {Q : VK} (h : ∀ p H2, H p = none → Ex H H2 → H2 p = some (.lst xs) → Q (.ref p) H2) : nL H xs Q := h
theorem nT_intro {H : Hp} {xs : List V} {Q : VK} (h : ∀ p H2, H p = none → Ex H H2 → H2 p = some (.tup xs) → Q (.ref p) H2) : nT H xs Q := h
theorem nE_intro {H : Hp} {Q : Hp → Prop} (h : ∀ H2, Ex H H2 → Q H2) : nE H Q := h

section
variable {X : Cx} {a b : Expr} {ta tb : TE} {es : List Expr} {t : TA} {pos p1 p2 : Pos}
def tTupN (t : TA) : TE := fun σ H Q => t σ H fun xs H1 => xs.length ≤ sizeLine ∧ nT H1 xs Q
def tLstN (t : TA) : TE := fun σ H Q => t σ H fun xs H1 => xs.length ≤ sizeLine ∧ nL H1 xs Q
end
section
variable {X : Cx}
/-- readings may be weakened where the continuation is -/
structure MonoA (t : TA) : Prop where
  mono : ∀ σ H Q Q', (∀ xs H', Q xs H' → Q' xs H') → t σ H Q → t σ H Q'
end
section
variable {X : Cx} {es : List Expr} {t : TA} {pos : Pos}
theorem pe_tupN {x1} (h : PA X es t) : PE X (.Tuple es x1 pos) (tTupN t) := by
  refine ⟨fun pins s σ H Q I hq => ?_⟩
  refine wpAny_Tuple_spliced (thn (h.run pos pins s σ H _ I hq) fun us s1 ⟨xs, H1, I1, r, z, q⟩ => ⟨by rw [← r.length]; exact z, ?_⟩)
  have hf : H1 s1.heap.objs.size = none := I1.hok.fresh (Nat.le_refl _)
  refine ⟨.ref s1.heap.objs.size, upd H1 s1.heap.objs.size (.tup xs), I1.laid (t' := s1.toks) (fun b u e => Heap.get?_push_of_some _ e) (Nat.le_refl _) ?_, rfl, q.get _ hf⟩
  exact ⟨z, us, r, ⟨_, Heap.get?_push_size _ rfl, rfl, _, rfl⟩⟩
theorem pe_lstN (h : PA X es t) : PE X (.List es pos) (tLstN t) := by
  refine ⟨fun pins s σ H Q I hq => ?_⟩
  refine wpAny_List_spliced (thn (h.run pos pins s σ H _ I hq) fun us s1 ⟨xs, H1, I1, r, z, q⟩ => ⟨by rw [← r.length]; exact z, ?_⟩)
  have hf : H1 s1.heap.objs.size = none := I1.hok.fresh (Nat.le_refl _)
  refine ⟨.ref s1.heap.objs.size, upd H1 s1.heap.objs.size (.lst xs), I1.laid (t' := s1.toks) (fun b u e => Heap.get?_push_of_some _ e) (Nat.le_refl _) ?_, rfl, q.get _ hf⟩
  exact ⟨z, us, 0, r, Heap.get?_push_size _ rfl⟩
end

/-! ### operations by values -/
def rSlLN (K : PySem.W.Frag) : V → Option Int → Option Int → Hp → VK → Prop := fun x lo hi H Q => ∃ a xs, x = .ref a ∧ SqL K H a xs ∧ nL H (cutV xs lo hi) Q
def rCatN : R2 := fun x y H Q => ∃ l b xs zs, x = .ref l ∧ y = .ref b ∧ H l = some (.lst xs) ∧ H b = some (.lst zs) ∧ xs.length + zs.length ≤ sizeLine ∧ nL H (xs ++ zs) Q
def rRepN : R2 := fun x y H Q => ∃ l k xs, x = .ref l ∧ y = .int k ∧ H l = some (.lst xs) ∧ -(2 ^ 63) ≤ k ∧ k < 2 ^ 63 ∧ xs.length * k.toNat ≤ sizeLine ∧ nL H (List.replicate k.toNat xs).flatten Q
def rListN (K : PySem.W.Frag) : List V → Hp → VK → Prop := fun xs H Q => ∃ p ys, xs = [.ref p] ∧ (SqL K H p ys ∨ SqT K H p ys) ∧ nL H ys Q
def rDivmodN : List V → Hp → VK → Prop := fun xs H Q => ∃ i j, xs = [.int i, .int j] ∧ CDiv i j ∧ nT H [.int (i / j), .int (i % j)] Q
section
variable {X : Cx}
theorem sl_listN : SlR X (rSlLN X.K) := fun pins s σ H x v vl vu lo hi sl Q I rx hs pl pu ⟨a, xs, e, h, q⟩ => sl_list pins s σ H x v vl vu lo hi sl Q I rx hs pl pu ⟨a, xs, e, h, q.get⟩
theorem op_catN : OpR X (binaryOp .Add) rCatN := fun pins s σ H x y v u Q I rx ry ⟨l, b, xs, zs, e1, e2, h1, h2, hz, q⟩ => op_cat pins s σ H x y v u Q I rx ry ⟨l, b, xs, zs, e1, e2, h1, h2, hz, q.get⟩
theorem op_repN : OpR X (binaryOp .Mult) rRepN := fun pins s σ H x y v u Q I rx ry ⟨l, k, xs, e1, e2, h1, h2, h3, h4, q⟩ => op_rep pins s σ H x y v u Q I rx ry ⟨l, k, xs, e1, e2, h1, h2, h3, h4, q.get⟩
theorem call_listN : CallR X (.type "list") (rListN X.K) := fun pins s σ H xs us Q I r ⟨p, ys, e, h, q⟩ => call_list_of pins s σ H xs us Q I r ⟨p, ys, e, h, q.get⟩
theorem call_divmodN : CallR X (.builtin "divmod") rDivmodN := fun pins s σ H xs us Q I r ⟨i, j, e, c, q⟩ => call_divmod pins s σ H xs us Q I r ⟨i, j, e, c, q.get⟩
end

/-! ### a list of ints against the empty one -/
def tNilI (K : PySem.W.Frag) (ta : TE) : TE := fun σ H Q => ta σ H fun x H1 => ∃ (a : Addr) (xs : List Int), x = .ref a ∧ SqL K H1 a (xs.map V.int) ∧ nE H1 fun H2 => Q (.bl (decide (xs = []))) H2
def tConsI (K : PySem.W.Frag) (ta : TE) : TE := fun σ H Q => ta σ H fun x H1 => ∃ (a : Addr) (xs : List Int), x = .ref a ∧ SqL K H1 a (xs.map V.int) ∧ nE H1 fun H2 => Q (.bl (!decide (xs = []))) H2
section
variable {X : Cx} {a : Expr} {ta : TE} {p1 pos : Pos}
theorem pc_eqNil (hu : X.A.units + 64 < cLine) (ha : PE X a ta) : PC X .Eq a (.List [] p1) (tNilI X.K ta) := by
  refine ⟨fun pins s σ H Q I h => thn (ha.run pins s σ H _ I h) fun v s1 ⟨x, H1, I1, r1, l, xs, ex, hs, q⟩ => ?_⟩
  refine thn ((pe_lst pa_nil).run pins s1 σ H1 (fun y H2 => ∃ n, y = .ref n ∧ H1 n = none ∧ H2 = upd H1 n (.lst [])) I1 ⟨Nat.zero_le _, fun n nn => ⟨n, rfl, nn, rfl⟩⟩) fun u s2 ⟨y, H2, I2, r2, n, ey, nn, eH⟩ => ?_
  subst ex ey eH
  exact op_eqLI hu pins s2 σ _ _ _ _ _ Q I2 r1 r2 ⟨l, n, xs, [], rfl, rfl, (Ex.new nn).sqL hs, sq_nil, q _ (Ex.new nn)⟩
theorem pc_neNil (hu : X.A.units + 64 < cLine) (ha : PE X a ta) : PC X .NotEq a (.List [] p1) (tConsI X.K ta) := by
  refine ⟨fun pins s σ H Q I h => thn (ha.run pins s σ H _ I h) fun v s1 ⟨x, H1, I1, r1, l, xs, ex, hs, q⟩ => ?_⟩
  refine thn ((pe_lst pa_nil).run pins s1 σ H1 (fun y H2 => ∃ n, y = .ref n ∧ H1 n = none ∧ H2 = upd H1 n (.lst [])) I1 ⟨Nat.zero_le _, fun n nn => ⟨n, rfl, nn, rfl⟩⟩) fun u s2 ⟨y, H2, I2, r2, n, ey, nn, eH⟩ => ?_
  subst ex ey eH
  exact op_neLI hu pins s2 σ _ _ _ _ _ Q I2 r1 r2 ⟨l, n, xs, [], rfl, rfl, (Ex.new nn).sqL hs, sq_nil, q _ (Ex.new nn)⟩
end

/-! ### the rules with the written part told by its name -/
section
variable {X : Cx} {K : PySem.W.Frag}
theorem ixl (h : X.K = K) : IxR X (rIxL K) := by subst h; exact ix_list
theorem ixt (h : X.K = K) : IxR X (rIxT K) := by subst h; exact ix_tup
def rLenK (K : PySem.W.Frag) : List V → Hp → VK → Prop := fun xs H Q => ∃ p ys, xs = [.ref p] ∧ (SqL K H p ys ∨ SqT K H p ys) ∧ Q (.int ys.length) H
theorem lenK (h : X.K = K) : CallR X (.builtin "len") (rLenK K) := by subst h; exact call_len_seq
theorem slK (h : X.K = K) : SlR X (rSlLN K) := by subst h; exact sl_listN
theorem eqLI (h : X.K = K) (hu : X.A.units + 64 < cLine) : OpR X (compareOp .Eq) (rEqLI K) := by subst h; exact op_eqLI hu
theorem neLI (h : X.K = K) (hu : X.A.units + 64 < cLine) : OpR X (compareOp .NotEq) (rNeLI K) := by subst h; exact op_neLI hu
theorem eqD (h : X.K = K) (hu : X.A.units + 64 < cLine) : OpR X (compareOp .Eq) (rEqD K) := by subst h; exact op_eqD hu
theorem neD (h : X.K = K) (hu : X.A.units + 64 < cLine) : OpR X (compareOp .NotEq) (rNeD K) := by subst h; exact op_neD hu
theorem inK (h : X.K = K) : OpR X (compareOp .In) (rIn K false) := by subst h; exact op_in_seq
theorem niK (h : X.K = K) : OpR X (compareOp .NotIn) (rIn K true) := by subst h; exact op_notIn_seq
theorem listK (h : X.K = K) : CallR X (.type "list") (rListN K) := by subst h; exact call_listN
theorem sumK (h : X.K = K) (hc : X.calm = true) : CallR X (.builtin "sum") (rSum K) := by subst h; exact cr_sum hc
theorem maxK (h : X.K = K) (hc : X.calm = true) : CallR X (.builtin "max") (rMax K) := by subst h; exact cr_max hc
theorem minK (h : X.K = K) (hc : X.calm = true) : CallR X (.builtin "min") (rMin K) := by subst h; exact cr_min hc
def rSortN (K : PySem.W.Frag) : List V → Hp → VK → Prop := fun vs H Q => ∃ (a : Addr) (ns : List Int), vs = [V.ref a] ∧ SqL K H a (ns.map V.int) ∧ ∀ ns' : List Int, ns'.Perm ns → ns'.Pairwise (· ≤ ·) → nL H (ns'.map V.int) Q
theorem sortK (h : X.K = K) : CallR X (.builtin "sorted") (rSortN K) := by
  subst h
  exact fun pins s σ H xs us Q I r ⟨a, ns, e, hs, q⟩ => cr_sortedI pins s σ H xs us Q I r ⟨a, ns, e, hs, fun ns' p hp hw np => (q ns' hp hw).get p np⟩
theorem isiK (h : X.K = K) : CallR X (.builtin "isinstance") (rIsi K) := by subst h; exact call_isi
theorem isiTK (h : X.K = K) : CallR X (.builtin "isinstance") (rIsiT K) := by subst h; exact call_isiT
variable {a : Expr} {ta : TE} {p1 pos : Pos}
theorem eqNil (h : X.K = K) (hu : X.A.units + 64 < cLine) (ha : PE X a ta) : PC X .Eq a (.List [] p1) (tNilI K ta) := by subst h; exact pc_eqNil hu ha
theorem neNil (h : X.K = K) (hu : X.A.units + 64 < cLine) (ha : PE X a ta) : PC X .NotEq a (.List [] p1) (tConsI K ta) := by subst h; exact pc_neNil hu ha
end
/-! ### slices of lists -/
theorem sIx_neg1 (n d : Nat) : HT.sIx n d (some (-1)) = n - 1 := by
  have e : HT.sIx n d (some (-1)) = if (-1 : Int) < 0 then ((-1 : Int) + (n : Int)).toNat else min (-1 : Int).toNat n := rfl
  rw [e, if_pos (by decide)]
  omega
theorem cut_from {xs : List V} {n : Nat} : cutV xs (some (n : Int)) none = xs.drop n := by
  unfold cutV
  rw [HT.sIx_nat, HT.sIx_none]
  by_cases h : n ≤ xs.length
  · rw [Nat.min_eq_left h]
    exact List.take_of_length_le (by rw [List.length_drop]; omega)
  · rw [Nat.min_eq_right (by omega), List.drop_of_length_le (Nat.le_refl _), List.drop_of_length_le (by omega)]
    exact List.take_nil
theorem cut_to {xs : List V} {n : Nat} : cutV xs none (some (n : Int)) = xs.take n := by
  unfold cutV
  rw [HT.sIx_nat, HT.sIx_none, List.drop_zero, Nat.sub_zero]
  by_cases h : n ≤ xs.length
  · rw [Nat.min_eq_left h]
  · rw [Nat.min_eq_right (by omega), List.take_length, List.take_of_length_le (by omega)]
theorem cut_but {xs : List V} : cutV xs none (some (-1)) = xs.dropLast := by
  unfold cutV
  rw [HT.sIx_none, List.drop_zero, Nat.sub_zero, List.dropLast_eq_take]
  rw [sIx_neg1]
theorem cut_end {xs : List V} : cutV xs (some (-1)) none = xs.drop (xs.length - 1) := by
  unfold cutV
  rw [HT.sIx_none, sIx_neg1]
  exact List.take_of_length_le (by rw [List.length_drop]; omega)
/-! ### places of lists of ints -/
theorem atI_getI {ns : List Int} {i : Int} (h0 : 0 ≤ i) (h : i < (ns.length : Int)) : atI (ns.map V.int) i = some (.int (ns.getD i.toNat 0)) := by
  obtain ⟨n, rfl⟩ := Int.eq_ofNat_of_zero_le h0
  refine atI_nat ?_
  have h' : n < ns.length := by omega
  rw [List.getElem?_map, List.getElem?_eq_getElem h']
  simp [List.getD, h']
theorem atI_headI {ns : List Int} (h : ns ≠ []) : atI (ns.map V.int) 0 = some (.int (ns.headD 0)) := by
  cases ns with
  | nil => exact absurd rfl h
  | cons n r => exact atI_nat (j := 0) rfl
theorem atI_lastI {ns : List Int} (h : ns ≠ []) : atI (ns.map V.int) (-1) = some (.int (ns.getLastD 0)) := by
  have e : ns = ns.dropLast ++ [ns.getLast h] := (List.dropLast_concat_getLast h).symm
  have e2 : ns.getLastD 0 = ns.getLast h := by rw [List.getLastD_eq_getLast?, List.getLast?_eq_some_getLast h]; rfl
  rw [e2]
  have e3 : ns.map V.int = ns.dropLast.map V.int ++ [.int (ns.getLast h)] := by
    rw [← List.map_singleton, ← List.map_append, List.dropLast_concat_getLast]
  rw [e3]
  exact atI_last _ _
theorem getMapI {ns : List Int} {i : Nat} {y : V} (h : (ns.map V.int)[i]? = some y) : ∃ n, ns[i]? = some n ∧ y = .int n := by
  rw [List.getElem?_map] at h
  obtain ⟨n, h1, h2⟩ := Option.map_eq_some_iff.mp h
  exact ⟨n, h1, h2.symm⟩
theorem not_bnot {c : Prop} [Decidable c] (h : ¬ (!decide c) = true) : c := by
  by_cases hc : c
  · exact hc
  · rw [decide_eq_false hc] at h
    exact absurd rfl h
theorem of_bnot {c : Prop} [Decidable c] (h : (!decide c) = true) : ¬ c := fun hc => by
  rw [decide_eq_true hc] at h
  cases h
theorem not_dec {c : Prop} [Decidable c] (h : ¬ decide c = true) : ¬ c := fun hc => h (decide_eq_true hc)

/-! ### comprehensions whose turns give what is known -/
/-- n turns of J over what grows from H1; Y i x: what the i-th yields -/
structure Goes (J : It) (H1 : Hp) (n : Nat) (Y : Nat → V → Hp → Prop) : Prop where
  go : ∀ i H', i < n → Ex H1 H' → J.go i H'
  yld : ∀ i H' x H'', i < n → Ex H1 H' → J.yld i H' x H'' → Ex H' H'' ∧ Y i x H''
  stop : ∀ H', Ex H1 H' → J.stop n H'
theorem Goes.list {K : PySem.W.Frag} {H1 : Hp} {a : Addr} {xs : List V} (h : SqL K H1 a xs) : Goes (Itl K a) H1 xs.length fun i x _ => xs[i]? = some x where
  go := fun i H' hi e => ⟨xs, xs[i], e.sqL h, List.getElem?_eq_getElem hi⟩
  yld := fun i H' x H'' hi e ⟨eq, hx⟩ => by
    subst eq
    exact ⟨Ex.refl _, hx xs (e.sqL h)⟩
  stop := fun H' e => ⟨xs, e.sqL h, Nat.le_refl _⟩
theorem Goes.range {H1 : Hp} {lo : Int} {n : Nat} : Goes (Itr lo n) H1 n fun i x _ => x = .int (lo + (i : Int)) where
  go := fun i H' hi e => hi
  yld := fun i H' x H'' hi e ⟨eq, hx⟩ => by
    subst eq
    exact ⟨Ex.refl _, hx⟩
  stop := fun H' e => Nat.le_refl _
theorem Goes.enum {K : PySem.W.Frag} {H1 : Hp} {a : Addr} {xs : List V} (h : SqL K H1 a xs) : Goes (Ite K a) H1 xs.length fun i x H'' => ∃ T y, x = .ref T ∧ xs[i]? = some y ∧ H'' T = some (.tup [.int (i : Int), y]) where
  go := fun i H' hi e => ⟨xs, xs[i], e.sqL h, List.getElem?_eq_getElem hi⟩
  yld := fun i H' x H'' hi e ⟨T, y, ex, nT, eH, hx⟩ => by
    subst eH
    exact ⟨Ex.new nT, T, y, ex, hx xs (e.sqL h), upd_same⟩
  stop := fun H' e => ⟨xs, e.sqL h, Nat.le_refl _⟩
theorem Goes.zip {K : PySem.W.Frag} {H1 : Hp} {a b : Addr} {xs ys : List V} (h : SqL K H1 a xs) (h' : SqL K H1 b ys) (hl : xs.length = ys.length) : Goes (Itz K a b) H1 xs.length fun i x H'' => ∃ T y z, x = .ref T ∧ xs[i]? = some y ∧ ys[i]? = some z ∧ H'' T = some (.tup [y, z]) where
  go := fun i H' hi e => ⟨xs, ys, xs[i], ys[i], e.sqL h, e.sqL h', List.getElem?_eq_getElem hi, List.getElem?_eq_getElem (by omega)⟩
  yld := fun i H' x H'' hi e ⟨T, y, z, ex, nT, eH, hx, hy⟩ => by
    subst eH
    exact ⟨Ex.new nT, T, y, z, ex, hx xs (e.sqL h), hy ys (e.sqL h'), upd_same⟩
  stop := fun H' e => ⟨xs, ys, e.sqL h, e.sqL h', .inl (Nat.le_refl _)⟩
theorem Goes.str {H1 : Hp} {x : Str} : Goes (Its x) H1 x.cps.size fun i v _ => ∃ c, x.cps[i]? = some c ∧ v = .str ⟨#[c]⟩ where
  go := fun i H' hi e => hi
  yld := fun i H' v H'' hi e ⟨eq, hx⟩ => by
    subst eq
    exact ⟨Ex.refl _, hx⟩
  stop := fun H' e => Nat.le_refl _

/-- what the first n turns give -/
def outs (out : Nat → Option V) (n : Nat) : List V := (List.range n).filterMap out
theorem outs_succ (out : Nat → Option V) (n : Nat) : outs out (n + 1) = outs out n ++ (out n).toList := by
  unfold outs
  rw [List.range_succ, List.filterMap_append]
  cases h : out n <;> simp [h]
theorem outs_len (out : Nat → Option V) (n : Nat) : (outs out n).length ≤ n := by
  unfold outs
  have := List.length_filterMap_le out (List.range n)
  rw [List.length_range] at this
  exact this
theorem outs_eq {out : Nat → Option V} {l : List V} (h : ∀ i, i < l.length → out i = l[i]?) : outs out l.length = l := by
  have : ∀ n, n ≤ l.length → outs out n = l.take n := by
    intro n
    induction n with
    | zero => intro _; rfl
    | succ n ih =>
      intro hn
      rw [outs_succ, ih (by omega), h n (by omega), List.take_add_one]
  rw [this _ (Nat.le_refl _), List.take_length]
theorem outs_len_eq {out : Nat → Option V} {l : List V} {n : Nat} (hn : n = l.length) (h : ∀ i, i < l.length → out i = l[i]?) : outs out n = l := by
  rw [hn]
  exact outs_eq h
/-- what is filtered out of a list, each item turned -/
theorem outs_filter {α : Type} {out : Nat → Option V} {l : List α} {p : α → Bool} {f : α → V} (h : ∀ i x, l[i]? = some x → out i = if p x then some (f x) else none) : outs out l.length = (l.filter p).map f := by
  have : ∀ n, n ≤ l.length → outs out n = ((l.take n).filter p).map f := by
    intro n
    induction n with
    | zero => intro _; rfl
    | succ n ih =>
      intro hn
      have hx : l[n]? = some l[n] := List.getElem?_eq_getElem (by omega)
      rw [outs_succ, ih (by omega), h n _ hx, List.take_add_one, hx, List.filter_append, List.map_append]
      cases hp : p l[n] <;> simp [hp]
  rw [this _ (Nat.le_refl _), List.take_length]
/-- the comprehension's loop -/
theorem lc_out {J : It} {H1 : Hp} {n : Nat} {Y : Nat → V → Hp → Prop} {σ : L2.St} {vs : List Nat} {g : TG} {tt : TT} {te : TE} {Q : Addr → Hp → Prop} (out : Nat → Option V) (hw : Goes J H1 n Y) (hn : n ≤ 1000000)
    (turn : ∀ i x H', i < n → Ex H1 H' → Y i x H' → ∀ R : Option V → Hp → Prop, (∀ o H4, out i = o → Ex H' H4 → R o H4) → g x (wipe σ vs) H' fun σ2 H2 => wipe σ2 vs = wipe σ vs ∧ tt σ2 H2 fun b H3 => if b = true then te σ2 H3 fun y H4 => R (some y) H4 else R none H3)
    (q : ∀ p H2, H1 p = none → Ex H1 H2 → H2 p = some (.lst (outs out n)) → Q p H2) : ∀ D, H1 D = none → ∃ W : Nat → Nat → Hp → Prop, (∃ m, W 0 m (upd H1 D (.lst []))) ∧ ∀ i m H, W i m H →
      (J.stop i H ∧ Q D H) ∨ (J.go i H ∧ ∃ Nx : Hp → Prop, (∀ H', Nx H' → ∃ m', m' < m ∧ W (i + 1) m' H') ∧ ∀ x H', J.yld i H x H' → g x (wipe σ vs) H' fun σ2 H2 => wipe σ2 vs = wipe σ vs ∧ tt σ2 H2 fun b H3 =>
        if b = true then te σ2 H3 fun y H4 => ∃ acc, H4 D = some (.lst acc) ∧ acc.length < sizeLine ∧ Nx (upd H4 D (.lst (acc ++ [y]))) else Nx H3) := by
  intro D nD
  refine ⟨fun i m H => m = n - i ∧ i ≤ n ∧ Ex H1 H ∧ H D = some (.lst (outs out i)), ⟨n, by omega, Nat.zero_le _, Ex.new nD, upd_same⟩, ?_⟩
  rintro i m H ⟨rfl, hi, e, hD⟩
  by_cases h : i < n
  · refine .inr ⟨hw.go i H h e, fun H' => Ex H1 H' ∧ H' D = some (.lst (outs out (i + 1))), fun H' ⟨e', h'⟩ => ⟨n - (i + 1), by omega, rfl, h, e', h'⟩, fun x H' hy => ?_⟩
    obtain ⟨e1, y1⟩ := hw.yld i H x H' h e hy
    refine turn i x H' h (e.trans e1) y1 (fun o H4 => match o with | some y => ∃ acc, H4 D = some (.lst acc) ∧ acc.length < sizeLine ∧ Ex H1 (upd H4 D (.lst (acc ++ [y]))) ∧ (upd H4 D (.lst (acc ++ [y]))) D = some (.lst (outs out (i + 1))) | none => Ex H1 H4 ∧ H4 D = some (.lst (outs out (i + 1)))) fun o H4 ho e4 => ?_
    have e5 : Ex H1 H4 := (e.trans e1).trans e4
    have hD4 := (e1.trans e4) D _ hD
    cases o with
    | some y =>
      refine ⟨_, hD4, Nat.lt_of_le_of_lt (outs_len out i) (Nat.lt_of_lt_of_le h (Nat.le_trans hn (by decide))), Ex.mut e5 nD, ?_⟩
      rw [upd_same, outs_succ, ho]
      rfl
    | none =>
      refine ⟨e5, ?_⟩
      rw [outs_succ, ho]
      show H4 D = some (.lst (outs out i ++ []))
      rw [List.append_nil]
      exact hD4
  · have hin : i = n := by omega
    subst hin
    exact .inl ⟨hw.stop H e, q D H nD e hD⟩
/-- .. where nothing is tested -/
theorem lc_all {J : It} {H1 : Hp} {n : Nat} {Y : Nat → V → Hp → Prop} {σ : L2.St} {vs : List Nat} {g : TG} {te : TE} {Q : Addr → Hp → Prop} (l : List V) (hl : l.length = n) (hw : Goes J H1 n Y) (hn : n ≤ 1000000)
    (turn : ∀ i x H', i < n → Ex H1 H' → Y i x H' → ∀ R : V → Hp → Prop, (∀ y H4, l[i]? = some y → Ex H' H4 → R y H4) → g x (wipe σ vs) H' fun σ2 H2 => wipe σ2 vs = wipe σ vs ∧ te σ2 H2 R)
    (q : ∀ p H2, H1 p = none → Ex H1 H2 → H2 p = some (.lst l) → Q p H2) : ∀ D, H1 D = none → ∃ W : Nat → Nat → Hp → Prop, (∃ m, W 0 m (upd H1 D (.lst []))) ∧ ∀ i m H, W i m H →
      (J.stop i H ∧ Q D H) ∨ (J.go i H ∧ ∃ Nx : Hp → Prop, (∀ H', Nx H' → ∃ m', m' < m ∧ W (i + 1) m' H') ∧ ∀ x H', J.yld i H x H' → g x (wipe σ vs) H' fun σ2 H2 => wipe σ2 vs = wipe σ vs ∧ tYes σ2 H2 fun b H3 =>
        if b = true then te σ2 H3 fun y H4 => ∃ acc, H4 D = some (.lst acc) ∧ acc.length < sizeLine ∧ Nx (upd H4 D (.lst (acc ++ [y]))) else Nx H3) := by
  refine lc_out (fun i => l[i]?) hw hn (fun i x H' hi e hy R hR => ?_) (by rw [outs_len_eq hl.symm fun i _ => rfl]; exact q)
  exact turn i x H' hi e hy (fun y H4 => R (some y) H4) fun y H4 h e4 => hR _ _ h e4

/-! ### signs -/
def bitC (b : Bool) : Nat := if b then 49 else 48
def bitsStr (bits : List Bool) : Str := ⟨(bits.map bitC).toArray⟩
theorem bitsStr_len (bits : List Bool) : (bitsStr bits).length = bits.length := by simp [bitsStr, Str.length]
theorem bits_at {bits : List Bool} {i : Int} (h0 : 0 ≤ i) (h : i < (bits.length : Int)) : atI (bitsStr bits).cps.toList i = some (bitC (bits.getD i.toNat false)) := by
  obtain ⟨n, rfl⟩ := Int.eq_ofNat_of_zero_le h0
  refine atI_nat ?_
  have h' : n < bits.length := by omega
  show (bits.map bitC).toArray.toList[n]? = _
  simp [List.getD, h']
theorem bit_one (b : Bool) : decide (V.str ⟨#[bitC b]⟩ = V.str (Str.ofString "1")) = b := by
  cases b <;> decide +kernel
end TD

/-! Data of any kind: isinstance, the empty list, places. -/
namespace TD
open PySem PySem.Spec PyProof.Rows L2
def kindOf : PyData → String
  | .none => "NoneType"
  | .bool _ => "bool"
  | .int _ => "int"
  | .str _ => "str"
  | .list _ => "list"
  | .tuple _ => "tuple"
  | .dict _ => "dict"
def isA (n : String) (d : PyData) : Bool := kindOf d == n || (n == "int" && kindOf d == "bool")
theorem isA_tab : (∀ i, isA "int" (.int i) = true) ∧ (∀ i, isA "int" (.bool i) = true) ∧ isA "int" .none = false ∧ (∀ i, isA "int" (.str i) = false) ∧ (∀ i, isA "int" (.list i) = false) ∧ (∀ i, isA "int" (.tuple i) = false) ∧
    (∀ i, isA "bool" (.int i) = false) ∧ (∀ i, isA "bool" (.bool i) = true) ∧ isA "bool" .none = false ∧ (∀ i, isA "bool" (.str i) = false) ∧ (∀ i, isA "bool" (.list i) = false) ∧ (∀ i, isA "bool" (.tuple i) = false) ∧
    (∀ i, isA "str" (.int i) = false) ∧ (∀ i, isA "str" (.bool i) = false) ∧ isA "str" .none = false ∧ (∀ i, isA "str" (.str i) = true) ∧ (∀ i, isA "str" (.list i) = false) ∧ (∀ i, isA "str" (.tuple i) = false) ∧
    (∀ i, isA "list" (.int i) = false) ∧ (∀ i, isA "list" (.bool i) = false) ∧ isA "list" .none = false ∧ (∀ i, isA "list" (.str i) = false) ∧ (∀ i, isA "list" (.list i) = true) ∧ (∀ i, isA "list" (.tuple i) = false) ∧
    (∀ i, isA "tuple" (.int i) = false) ∧ (∀ i, isA "tuple" (.bool i) = false) ∧ isA "tuple" .none = false ∧ (∀ i, isA "tuple" (.str i) = false) ∧ (∀ i, isA "tuple" (.list i) = false) ∧ (∀ i, isA "tuple" (.tuple i) = true) := by
  simp [isA, kindOf]
theorem dp_ty {K : PySem.W.Frag} {H : Hp} {v : V} {d : PyData} (h : Dp K H v d) : TyX K H v (.type (kindOf d)) := by
  cases h with
  | non => exact .base .non
  | bl b => exact .base (.bl b)
  | int i => exact .base (.int i)
  | str x => exact .base (.str x)
  | lst h a =>
    rcases h with (h | ⟨o, h⟩) | ⟨o, its, n, e, c, _⟩
    · exact .base (.lst h)
    · exact .base (.frz h)
    · exact .kList e c
  | tup h a =>
    rcases h with (h | ⟨o, h⟩) | ⟨o, its, n, e, c, _⟩
    · exact .base (.tup h)
    · exact .fTuple h
    · exact .kTuple e c
theorem kit_all : ∀ k ∈ ["NoneType", "bool", "int", "str", "list", "tuple", "dict"], ∀ n ∈ ["int", "bool", "str", "list", "tuple"], kitB k n = some (k == n || (n == "int" && k == "bool")) := by decide +kernel
theorem kit_isA {n : String} {d : PyData} (hn : (n == "int" || n == "bool" || n == "str" || n == "list" || n == "tuple") = true) : kitB (kindOf d) n = some (isA n d) := by
  have hn : n ∈ ["int", "bool", "str", "list", "tuple"] := by simpa [or_assoc] using hn
  refine kit_all (kindOf d) ?_ n hn
  cases d <;> simp [kindOf]
def rIsiD (K : PySem.W.Frag) : List V → Hp → VK → Prop := fun xs H Q => ∃ (x : V) (n : String) (d : PyData), xs = [x, .ty n] ∧ Dp K H x d ∧ (n == "int" || n == "bool" || n == "str" || n == "list" || n == "tuple") = true ∧ Q (.bl (isA n d)) H
theorem isiD {X : Cx} {K : PySem.W.Frag} (h : X.K = K) : CallR X (.builtin "isinstance") (rIsiD K) := by
  subst h
  intro pins s σ H xs us Q I r ⟨x, n, d, e, hd, hn, q⟩
  refine call_isi pins s σ H xs us Q I r ⟨x, .ty n, .type (kindOf d), .type n, isA n d, e, .ty n, dp_ty hd, ?_, q⟩
  exact kit_ty (kit_isA hn)
/-- isinstance(x, (a, b)) -/
def rIsiD2 (K : PySem.W.Frag) : List V → Hp → VK → Prop := fun xs H Q => ∃ (x : V) (tp : Addr) (n m : String) (d : PyData), xs = [x, .ref tp] ∧ H tp = some (.tup [.ty n, .ty m]) ∧ Dp K H x d ∧ (n == "int" || n == "bool" || n == "str" || n == "list" || n == "tuple") = true ∧
  (m == "int" || m == "bool" || m == "str" || m == "list" || m == "tuple") = true ∧ Q (.bl (isA n d || isA m d)) H
theorem isiD2 {X : Cx} {K : PySem.W.Frag} (h : X.K = K) : CallR X (.builtin "isinstance") (rIsiD2 K) := by
  subst h
  intro pins s σ H xs us Q I r ⟨x, tp, n, m, d, e, ht, hd, hn, hm, q⟩
  refine call_isiT pins s σ H xs us Q I r ⟨x, tp, [.ty n, .ty m], .type (kindOf d), [.type n, .type m], isA n d || isA m d, e, ht, .cons (.ty n) (.cons (.ty m) .nil), dp_ty hd, ?_, q⟩
  refine kitAny_cons (kit_ty (kit_isA hn)) (fun h => ?_) (fun h => by rw [h]; rfl)
  rw [h, Bool.false_or]
  exact kitAny_cons (kit_ty (kit_isA hm)) (fun h => by rw [h]; exact kitAny_nil) (fun h => h)
/-! ### a list of data against the empty one -/
def tNilD (K : PySem.W.Frag) (ta : TE) : TE := fun σ H Q => ta σ H fun x H1 => ∃ (a : Addr) (ds : List PyData), x = .ref a ∧ Dp K H1 x (.list ds) ∧ SeqAt.shaped (.list ds) = true ∧ nE H1 fun H2 => Q (.bl ds.isEmpty) H2
def tConsD (K : PySem.W.Frag) (ta : TE) : TE := fun σ H Q => ta σ H fun x H1 => ∃ (a : Addr) (ds : List PyData), x = .ref a ∧ Dp K H1 x (.list ds) ∧ SeqAt.shaped (.list ds) = true ∧ nE H1 fun H2 => Q (.bl (!ds.isEmpty)) H2
theorem eqv_nil (ds : List PyData) : PyData.eqv (.list ds) (.list []) = ds.isEmpty := by
  cases ds <;> simp [PyData.eqv, PyData.eqvAll]
theorem eqv_nilT (ds : List PyData) : PyData.eqv (.tuple ds) (.tuple []) = ds.isEmpty := by
  cases ds <;> simp [PyData.eqv, PyData.eqvAll]
theorem shaped_nil : SeqAt.shaped (.list []) = true := by decide +kernel
section
variable {X : Cx} {K : PySem.W.Frag} {a : Expr} {ta : TE} {p1 pos : Pos}
theorem eqNilD (h : X.K = K) (hu : X.A.units + 64 < cLine) (ha : PE X a ta) : PC X .Eq a (.List [] p1) (tNilD K ta) := by
  subst h
  refine ⟨fun pins s σ H Q I h => thn (ha.run pins s σ H _ I h) fun v s1 ⟨x, H1, I1, r1, l, ds, ex, hd, hs, q⟩ => ?_⟩
  refine thn ((pe_lst pa_nil).run pins s1 σ H1 (fun y H2 => ∃ n, y = .ref n ∧ H1 n = none ∧ H2 = upd H1 n (.lst [])) I1 ⟨Nat.zero_le _, fun n nn => ⟨n, rfl, nn, rfl⟩⟩) fun u s2 ⟨y, H2, I2, r2, n, ey, nn, eH⟩ => ?_
  subst ex ey eH
  exact op_eqD hu pins s2 σ _ _ _ _ _ Q I2 r1 r2 ⟨_, .list [], (Ex.new nn).dp hd, .lst (SqL.of upd_same) .nil, hs, shaped_nil, by rw [eqv_nil]; exact q _ (Ex.new nn)⟩
theorem neNilD (h : X.K = K) (hu : X.A.units + 64 < cLine) (ha : PE X a ta) : PC X .NotEq a (.List [] p1) (tConsD K ta) := by
  subst h
  refine ⟨fun pins s σ H Q I h => thn (ha.run pins s σ H _ I h) fun v s1 ⟨x, H1, I1, r1, l, ds, ex, hd, hs, q⟩ => ?_⟩
  refine thn ((pe_lst pa_nil).run pins s1 σ H1 (fun y H2 => ∃ n, y = .ref n ∧ H1 n = none ∧ H2 = upd H1 n (.lst [])) I1 ⟨Nat.zero_le _, fun n nn => ⟨n, rfl, nn, rfl⟩⟩) fun u s2 ⟨y, H2, I2, r2, n, ey, nn, eH⟩ => ?_
  subst ex ey eH
  exact op_neD hu pins s2 σ _ _ _ _ _ Q I2 r1 r2 ⟨_, .list [], (Ex.new nn).dp hd, .lst (SqL.of upd_same) .nil, hs, shaped_nil, by rw [eqv_nil]; exact q _ (Ex.new nn)⟩
end
/-! ### shapes -/
theorem shaped_iff {d : PyData} : SeqAt.shaped d = true ↔ PyData.canLay0 d = true ∧ PyData.depth d ≤ 64 := by
  unfold SeqAt.shaped
  rw [Bool.and_eq_true, decide_eq_true_eq]
theorem shaped_cons {d : PyData} {ds : List PyData} (h : SeqAt.shaped (.tuple (d :: ds)) = true) : SeqAt.shaped d = true ∧ SeqAt.shaped (.tuple ds) = true := by
  rw [shaped_iff] at h ⊢
  rw [shaped_iff]
  simp only [PyData.canLay0, PyData.canLayAll0, PyData.depth, PyData.depthAll, Bool.and_eq_true] at h ⊢
  obtain ⟨⟨h1, h2⟩, h3⟩ := h
  exact ⟨⟨h1, by omega⟩, h2, by omega⟩
theorem shaped_of_mem {ds : List PyData} (h : SeqAt.shaped (.tuple ds) = true) : ∀ d ∈ ds, SeqAt.shaped d = true := by
  induction ds with
  | nil => intro d hd; cases hd
  | cons e r ih =>
    intro d hd
    have h2 := shaped_cons h
    rcases List.mem_cons.mp hd with rfl | hd
    · exact h2.1
    · exact ih h2.2 d hd
theorem canLayAll_mem : ∀ {ds : List PyData}, (∀ d ∈ ds, PyData.canLay0 d = true) → PyData.canLayAll0 ds = true
  | [], _ => by simp [PyData.canLayAll0]
  | d :: ds, h => by
    rw [PyData.canLayAll0, h d List.mem_cons_self, canLayAll_mem fun e he => h e (List.mem_cons_of_mem _ he)]
    rfl
theorem depthAll_mem {n : Nat} : ∀ {ds : List PyData}, (∀ d ∈ ds, PyData.depth d ≤ n) → PyData.depthAll ds ≤ n
  | [], _ => by simp [PyData.depthAll]
  | d :: ds, h => by
    rw [PyData.depthAll]
    have h1 := h d List.mem_cons_self
    have h2 := depthAll_mem fun e he => h e (List.mem_cons_of_mem _ he)
    omega
theorem shaped_of {ds : List PyData} (h : ∀ d ∈ ds, PyData.canLay0 d = true ∧ PyData.depth d ≤ 63) : SeqAt.shaped (.list ds) = true ∧ SeqAt.shaped (.tuple ds) = true := by
  rw [shaped_iff, shaped_iff]
  simp only [PyData.canLay0, PyData.depth]
  have h1 := canLayAll_mem fun d hd => (h d hd).1
  have h2 := depthAll_mem fun d hd => (h d hd).2
  exact ⟨⟨h1, by omega⟩, h1, by omega⟩
/-! ### places -/
theorem dpAll_len {K : PySem.W.Frag} {H : Hp} {vs : List V} {ds : List PyData} (h : DpAll K H vs ds) : vs.length = ds.length := by
  induction vs generalizing ds with
  | nil => cases h; rfl
  | cons v vs ih =>
    cases h with
    | cons a b => rw [List.length_cons, List.length_cons, ih b]
theorem dpAll_at {K : PySem.W.Frag} {H : Hp} {vs : List V} {ds : List PyData} (h : DpAll K H vs ds) : ∀ i, i < ds.length → ∃ v d, vs[i]? = some v ∧ ds[i]? = some d ∧ Dp K H v d := by
  induction vs generalizing ds with
  | nil => cases h; intro i hi; cases hi
  | cons v vs ih =>
    cases h with
    | cons a b =>
      intro i hi
      cases i with
      | zero => exact ⟨v, _, rfl, rfl, a⟩
      | succ i =>
        rw [List.length_cons] at hi
        exact ih b i (by omega)
theorem dpAll_app {K : PySem.W.Frag} {H : Hp} {vs us : List V} {ds es : List PyData} (h : DpAll K H vs ds) (g : DpAll K H us es) : DpAll K H (vs ++ us) (ds ++ es) := by
  induction vs generalizing ds with
  | nil => cases h; exact g
  | cons v vs ih =>
    cases h with
    | cons a b => exact .cons a (ih b)
theorem dpAll_snoc {K : PySem.W.Frag} {H : Hp} {vs : List V} {ds : List PyData} {d : PyData} (h : DpAll K H vs (ds ++ [d])) : ∃ us v, vs = us ++ [v] ∧ DpAll K H us ds ∧ Dp K H v d := by
  induction ds generalizing vs with
  | nil =>
    cases h with
    | cons a b =>
      cases b
      exact ⟨[], _, rfl, .nil, a⟩
  | cons e r ih =>
    cases h with
    | cons a b =>
      obtain ⟨us, v, rfl, g, x⟩ := ih b
      exact ⟨_ :: us, v, rfl, .cons a g, x⟩
/-! ### what is_beat looks at -/
def isWhole (lo hi : Int) : PyData → Bool
  | .int i => decide (lo ≤ i) && decide (i ≤ hi)
  | _ => false
def signOk (c : Nat) : Bool := c == 48 || c == 49
def areSigns : PyData → Bool
  | .str s => decide (1 ≤ s.length) && decide (s.length ≤ 12) && s.cps.toList.all signOk
  | _ => false
def intD : PyData → Int
  | .int i => i
  | _ => 0
def isWord (s : Str) (d : PyData) : Bool := PyData.eqv d (.str s)
def atD (ds : List PyData) (i : Nat) : PyData := ds.getD i .none
def isEvery (ds : List PyData) : Bool := isWhole 1 12 (atD ds 1) && isWhole 0 (intD (atD ds 1) - 1) (atD ds 2)
def flatD : PyData → Bool
  | .none | .bool _ | .int _ | .str _ => true
  | _ => false
def innerT (ds : List PyData) : Option (List PyData) :=
    if ds.isEmpty then none
    else if isWord "source" (atD ds 0) && decide (ds.length = 1) then some []
    else if isWord "every" (atD ds 0) && decide (ds.length = 4) && isEvery ds then some [atD ds 3]
    else if isWord "gate" (atD ds 0) && decide (ds.length = 3) && areSigns (atD ds 1) then some [atD ds 2]
    else if isWord "later" (atD ds 0) && decide (ds.length = 3) && isWhole 0 99 (atD ds 1) then some [atD ds 2]
    else if (isWord "either" (atD ds 0) || isWord "both" (atD ds 0) || isWord "but" (atD ds 0)) && decide (ds.length = 3) then some [atD ds 1, atD ds 2]
    else if isWord "led" (atD ds 0) && decide (ds.length = 5) && isWhole 0 9999 (atD ds 2) && isWhole 0 9999 (atD ds 4) then some [atD ds 1, atD ds 3]
    else none
def innerOf : PyData → Option (List PyData)
  | .tuple ds => innerT ds
  | _ => none
def headFlat : PyData → Bool
  | .tuple (w :: _) => flatD w
  | _ => true
theorem dpAll_atD {K : PySem.W.Frag} {H : Hp} {vs : List V} {ds : List PyData} (h : DpAll K H vs ds) (i : Nat) (hi : i < ds.length) : ∃ v, atI vs (i : Int) = some v ∧ Dp K H v (atD ds i) := by
  obtain ⟨v, d, h1, h2, h3⟩ := dpAll_at h i hi
  refine ⟨v, atI_nat h1, ?_⟩
  unfold TD.atD
  rw [List.getD_eq_getElem?_getD, h2]
  exact h3
theorem flat_of {K : PySem.W.Frag} {H : Hp} {v : V} {d : PyData} (h : Dp K H v d) (f : flatD d = true) : flatV v = true := by
  cases h <;> first | rfl | cases f
theorem eqV_str {K : PySem.W.Frag} {H : Hp} {v : V} {d : PyData} (h : Dp K H v d) (s : Str) : eqV (.str s) v = isWord s d := by
  unfold isWord
  cases h with
  | str x =>
    show (decide (s = x) : Bool) = _
    rw [PyData.eqv]
    by_cases e : s = x
    · simp [e]
    · simp [e, Ne.symm e]
  | _ => rw [PyData.eqv]; rfl
theorem inV_three {K : PySem.W.Frag} {H : Hp} {v : V} {d : PyData} (h : Dp K H v d) (a b c : Str) : inV v [.str a, .str b, .str c] = (isWord a d || isWord b d || isWord c d) := by
  unfold inV
  simp only [List.any_cons, List.any_nil, Bool.or_false, eqV_str h, Bool.or_assoc]
end TD
namespace TD
open PySem PySem.Spec PyProof.Rows L2
/-! ### a subscript of a list or a tuple -/
theorem ixlt {X : Cx} {K : PySem.W.Frag} (h : X.K = K) : IxR X (fun x y H Q => rIxL K x y H Q ∨ rIxT K x y H Q) := by subst h; exact ix_list.or ix_tup
/-! ### noughts -/
def rMulZ : R2 := fun x y H Q => ∃ n : Int, x = .str "0" ∧ y = .int n ∧ 0 ≤ n ∧ n ≤ 1000 ∧ Q (.str (bitsStr (List.replicate n.toNat false))) H
theorem zeros_fold (n : Nat) : (List.replicate n (Str.ofString "0").cps).foldl (· ++ ·) #[] = ((List.replicate n false).map bitC).toArray := by
  have h : ∀ (n : Nat) (acc : Array Nat), (List.replicate n (Str.ofString "0").cps).foldl (· ++ ·) acc = acc ++ ((List.replicate n false).map bitC).toArray := by
    intro n
    induction n with
    | zero => intro acc; simp
    | succ n ih =>
      intro acc
      rw [List.replicate_succ, List.foldl_cons, ih, show (Str.ofString "0").cps = #[48] by decide +kernel]
      apply Array.ext'
      simp [List.replicate_succ, bitC]
  rw [h n #[]]
  simp
theorem mulStr {X : Cx} : OpR X (binaryOp .Mult) rMulZ := by
  intro pins s σ H x y v u Q I rx ry ⟨n, ex, ey, h0, h1, q⟩
  subst ex ey
  obtain ⟨t, rfl⟩ := rx
  obtain ⟨t', rfl⟩ := ry
  have hl : (Str.ofString "0").length = 1 := by decide +kernel
  refine P.mul_str (by rw [decide_eq_false (show ¬ n < -(2 ^ 63 : Int) by omega), decide_eq_false (show ¬ n ≥ 2 ^ 63 by omega)]; rfl) (fun h2 _ => ?_) (fun _ _ => ?_) ?_
  · rw [hl]
    have : 1000 ≤ (2 ^ 63 - 1) / n := by
      refine Int.le_ediv_of_mul_le (by omega) ?_
      omega
    omega
  · rw [hl]
    unfold Builtin.Str.tooLong
    refine decide_eq_false ?_
    rw [sizeLine_eq]
    omega
  · by_cases h2 : n < 1
    · rw [if_pos h2]
      have : n = 0 := by omega
      subst this
      exact ⟨by decide, ⟨.str Str.empty, H, I.tok _, ⟨_, rfl⟩, q⟩⟩
    · rw [if_neg h2]
      by_cases h3 : (n == 1 || (Str.ofString "0").length == 0) = true
      · rw [if_pos h3]
        have : n = 1 := by
          rw [hl] at h3
          simpa using h3
        subst this
        refine ⟨.str (Str.ofString "0"), H, I, ⟨_, rfl⟩, ?_⟩
        have e : Str.ofString "0" = bitsStr (List.replicate (Int.toNat 1) false) := by decide +kernel
        rw [e]
        exact q
      · rw [if_neg h3]
        have e : (⟨(List.replicate n.toNat (Str.ofString "0").cps).foldl (· ++ ·) #[]⟩ : Str) = bitsStr (List.replicate n.toNat false) := by
          rw [zeros_fold]
          rfl
        rw [e]
        refine ⟨?_, ⟨.str (bitsStr (List.replicate n.toNat false)), H, I.tok _, ⟨_, rfl⟩, q⟩⟩
        rw [bitsStr_len, List.length_replicate]
        exact Nat.le_trans (show n.toNat ≤ 1000 by omega) (by decide)
end TD
namespace TD
open PySem PySem.Spec PyProof.Rows L2 TL
/-! ### signs put together -/
theorem joinL_nil : ∀ l : List (List Nat), joinL [] l = l.flatten
  | [] => rfl
  | [p] => by simp [joinL]
  | p :: q :: r => by
    rw [joinL, joinL_nil (q :: r)]
    simp
theorem join_bits (bits : List Bool) : Txt.join (Str.ofString "") (bits.map fun b => (⟨#[bitC b]⟩ : Str)) = bitsStr bits := by
  have e : tl (Txt.join (Str.ofString "") (bits.map fun b => (⟨#[bitC b]⟩ : Str))) = bits.map bitC := by
    rw [join_eq, tl_join, show tl (Str.ofString "") = [] by decide +kernel, joinL_nil]
    induction bits with
    | nil => rfl
    | cons b r ih =>
      simp only [List.map_cons, List.flatten_cons, ih]
      rfl
  generalize Txt.join (Str.ofString "") (bits.map fun b => (⟨#[bitC b]⟩ : Str)) = x at e
  obtain ⟨c⟩ := x
  unfold bitsStr
  rw [← e]
theorem strs_sum (bits : List Bool) : ((bits.map fun b => (⟨#[bitC b]⟩ : Str)).map (·.length)).sum = bits.length := by
  induction bits with
  | nil => rfl
  | cons b r ih =>
    simp only [List.map_cons, List.sum_cons, List.length_cons, ih]
    show 1 + _ = _
    omega
/-- a stock stands there: pairs -/
def StkAt (K : PySem.W.Frag) (H : Hp) (v : V) (st : List (Int × Int)) : Prop := ∃ (a : Addr) (ps : List Addr), v = .ref a ∧ SqL K H a (ps.map V.ref) ∧ ps.length = st.length ∧ ∀ (i : Nat) (p : Addr) (r : Int × Int), ps[i]? = some p → st[i]? = some r → SqT K H p [.int r.1, .int r.2]
theorem StkAt.ext {K : PySem.W.Frag} {H H' : Hp} {v : V} {st : List (Int × Int)} (h : StkAt K H v st) (e : Ex H H') : StkAt K H' v st := by
  obtain ⟨a, ps, ev, hs, hl, hr⟩ := h
  exact ⟨a, ps, ev, e.sqL hs, hl, fun i p r h1 h2 => e.sqT (hr i p r h1 h2)⟩
end TD
namespace TD
open PySem PySem.Spec PyProof.Rows L2
/-! ### beats as data -/
def Two.word : Two → Str
  | .either => "either"
  | .both => "both"
  | .but => "but"
def Beat.data : Beat → PyData
  | .source => .tuple [.str "source"]
  | .every n k b => .tuple [.str "every", .int (n : Int), .int (k : Int), b.data]
  | .gate bits b => .tuple [.str "gate", .str (bitsStr bits), b.data]
  | .later m b => .tuple [.str "later", .int (m : Int), b.data]
  | .two w a b => .tuple [.str w.word, a.data, b.data]
  | .led a many b first => .tuple [.str "led", a.data, .int (many : Int), b.data, .int (first : Int)]
def gateOf (r : Int × Int) (b : Beat) : Beat := .gate (evenBits r.1.toNat r.2.toNat) b
def gates (st : List (Int × Int)) (ns : List Int) : Beat := ns.foldl (fun b n => gateOf (st.getD n.toNat (0, 0)) b) .source
end TD
namespace TD
open PySem PySem.Spec PyProof.Rows L2
/-- a comprehension whose turns give what is only known to be some p -/
theorem lc_pick {J : It} {H1 : Hp} {n : Nat} {Y : Nat → V → Hp → Prop} {σ : L2.St} {vs : List Nat} {g : TG} {te : TE} {Q : Addr → Hp → Prop} (p : V → Prop) (hw : Goes J H1 n Y) (hn : n ≤ 1000000)
    (turn : ∀ i x H', i < n → Ex H1 H' → Y i x H' → ∀ R : V → Hp → Prop, (∀ y H4, p y → Ex H' H4 → R y H4) → g x (wipe σ vs) H' fun σ2 H2 => wipe σ2 vs = wipe σ vs ∧ te σ2 H2 R)
    (q : ∀ a H2 xs, H1 a = none → Ex H1 H2 → xs.length = n → (∀ x ∈ xs, p x) → H2 a = some (.lst xs) → Q a H2) : ∀ D, H1 D = none → ∃ W : Nat → Nat → Hp → Prop, (∃ m, W 0 m (upd H1 D (.lst []))) ∧ ∀ i m H, W i m H →
      (J.stop i H ∧ Q D H) ∨ (J.go i H ∧ ∃ Nx : Hp → Prop, (∀ H', Nx H' → ∃ m', m' < m ∧ W (i + 1) m' H') ∧ ∀ x H', J.yld i H x H' → g x (wipe σ vs) H' fun σ2 H2 => wipe σ2 vs = wipe σ vs ∧ tYes σ2 H2 fun b H3 =>
        if b = true then te σ2 H3 fun y H4 => ∃ acc, H4 D = some (.lst acc) ∧ acc.length < sizeLine ∧ Nx (upd H4 D (.lst (acc ++ [y]))) else Nx H3) := by
  intro D nD
  refine ⟨fun i m H => m = n - i ∧ i ≤ n ∧ Ex H1 H ∧ ∃ acc : List V, H D = some (.lst acc) ∧ acc.length = i ∧ ∀ x ∈ acc, p x, ⟨n, by omega, Nat.zero_le _, Ex.new nD, [], upd_same, rfl, fun x hx => (nomatch hx)⟩, ?_⟩
  rintro i m H ⟨rfl, hi, e, acc, hD, hl, hp⟩
  by_cases h : i < n
  · refine .inr ⟨hw.go i H h e, fun H' => Ex H1 H' ∧ ∃ acc : List V, H' D = some (.lst acc) ∧ acc.length = i + 1 ∧ ∀ x ∈ acc, p x, fun H' ⟨e', a', h', l', p'⟩ => ⟨n - (i + 1), by omega, rfl, h, e', a', h', l', p'⟩, fun x H' hy => ?_⟩
    obtain ⟨e1, y1⟩ := hw.yld i H x H' h e hy
    refine turn i x H' h (e.trans e1) y1 (fun y H4 => ∃ acc, H4 D = some (.lst acc) ∧ acc.length < sizeLine ∧ Ex H1 (upd H4 D (.lst (acc ++ [y]))) ∧ ∃ acc' : List V, (upd H4 D (.lst (acc ++ [y]))) D = some (.lst acc') ∧ acc'.length = i + 1 ∧ ∀ x ∈ acc', p x) fun y H4 hy e4 => ?_
    have e5 : Ex H1 H4 := (e.trans e1).trans e4
    have hD4 := (e1.trans e4) D _ hD
    refine ⟨acc, hD4, Nat.lt_of_le_of_lt (Nat.le_of_eq hl) (Nat.lt_of_lt_of_le h (Nat.le_trans hn (by decide))), Ex.mut e5 nD, acc ++ [y], upd_same, by rw [List.length_append, hl]; rfl, fun x hx => ?_⟩
    rcases List.mem_append.mp hx with hx | hx
    · exact hp x hx
    · rw [List.mem_singleton.mp hx]
      exact hy
  · have hin : i = n := by omega
    subst hin
    exact .inl ⟨hw.stop H e, q D H acc nD e hl hp hD⟩
theorem ints_of {p : Int → Prop} : ∀ {xs : List V}, (∀ x ∈ xs, ∃ r, x = .int r ∧ p r) → ∃ ns : List Int, xs = ns.map V.int ∧ ∀ r ∈ ns, p r
  | [], _ => ⟨[], rfl, fun r hr => (nomatch hr)⟩
  | x :: xs, h => by
    obtain ⟨r, rfl, hr⟩ := h x List.mem_cons_self
    obtain ⟨ns, rfl, hn⟩ := ints_of fun y hy => h y (List.mem_cons_of_mem _ hy)
    exact ⟨r :: ns, rfl, fun s hs => by
      rcases List.mem_cons.mp hs with rfl | hs
      · exact hr
      · exact hn s hs⟩
end TD

/-! Forms: what stays true of them, in plain Lean. -/
namespace TD

/-! ### lists of ints -/
theorem asc_len : ∀ {l : List Int} {lo hi : Int}, l.Pairwise (· < ·) → (∀ x ∈ l, lo ≤ x ∧ x < hi) → lo ≤ hi → (l.length : Int) ≤ hi - lo
  | [], lo, hi, _, _, h => by simp; omega
  | x :: r, lo, hi, h, hb, hlh => by
    obtain ⟨h1, h2⟩ := List.pairwise_cons.mp h
    have hx := hb x List.mem_cons_self
    have := asc_len (l := r) (lo := x + 1) (hi := hi) h2 (fun y hy => ⟨h1 y hy, (hb y (List.mem_cons_of_mem _ hy)).2⟩) (by omega)
    rw [List.length_cons]
    omega
theorem getD_eq {l : List Int} {i : Nat} (h : i < l.length) : l.getD i 0 = l[i] := by
  rw [List.getD_eq_getElem?_getD, List.getElem?_eq_getElem h]
  rfl
theorem getD_mem {l : List Int} {i : Nat} (h : i < l.length) : l.getD i 0 ∈ l := by
  rw [getD_eq h]
  exact List.getElem_mem _
theorem headD_eq {l : List Int} : l.headD 0 = l.getD 0 0 := by cases l <;> rfl
theorem lastD_eq {l : List Int} (h : l ≠ []) : l.getLastD 0 = l.getD (l.length - 1) 0 := by
  rw [List.getLastD_eq_getLast?, List.getLast?_eq_getElem?, List.getD_eq_getElem?_getD]
theorem asc_get {l : List Int} (h : l.Pairwise (· < ·)) {i j : Nat} (hij : i < j) (hj : j < l.length) : l.getD i 0 < l.getD j 0 := by
  rw [getD_eq hj, getD_eq (by omega)]
  exact List.pairwise_iff_getElem.mp h i j (by omega) hj hij

/-! ### the ticks of a round -/
def rt (t : List Int) (len : Int) (i : Nat) : Int := t.getD (i % t.length) 0 + ((i / t.length : Nat) : Int) * len
theorem gaps_len {t : List Int} {len : Int} : (gapsRound t len).length = t.length := by
  unfold gapsRound
  rw [List.length_zipWith]
  cases t <;> simp
theorem gaps_get {t : List Int} {len : Int} {r : Nat} (h : r < t.length) : (gapsRound t len).getD r 0 = (if r + 1 < t.length then t.getD (r + 1) 0 else t.headD 0 + len) - t.getD r 0 := by
  unfold gapsRound
  rw [List.getD_eq_getElem?_getD, List.getElem?_zipWith, List.getElem?_eq_getElem h]
  have e : (t.tail ++ [t.headD 0 + len])[r]? = some (if r + 1 < t.length then t.getD (r + 1) 0 else t.headD 0 + len) := by
    cases t with
    | nil => cases h
    | cons x t =>
      show (t ++ [x + len])[r]? = _
      rw [List.getElem?_append]
      by_cases hr : r < t.length
      · rw [if_pos hr, if_pos (by rw [List.length_cons]; omega), List.getElem?_eq_getElem hr]
        show _ = some ((x :: t).getD (r + 1) 0)
        rw [getD_eq (by rw [List.length_cons]; omega)]
        rfl
      · have : r = t.length := by rw [List.length_cons] at h; omega
        rw [if_neg hr, if_neg (by rw [List.length_cons]; omega), this, Nat.sub_self]
        rfl
  rw [e, getD_eq h]
  rfl
theorem rt_lt {t : List Int} {len : Int} {i : Nat} (h : i < t.length) : rt t len i = t.getD i 0 := by
  unfold rt
  rw [Nat.mod_eq_of_lt h, Nat.div_eq_of_lt h]
  simp
theorem rt_succ {t : List Int} {len : Int} (ht : t ≠ []) (i : Nat) : rt t len (i + 1) = rt t len i + (gapsRound t len).getD (i % t.length) 0 := by
  have hn : 0 < t.length := List.length_pos_iff.mpr ht
  have hr : i % t.length < t.length := Nat.mod_lt _ hn
  rw [gaps_get hr]
  unfold rt
  by_cases h : i % t.length + 1 < t.length
  · rw [if_pos h]
    have e1 : (i + 1) % t.length = i % t.length + 1 := by rw [Nat.add_mod, Nat.mod_eq_of_lt (show 1 < t.length by omega), Nat.mod_eq_of_lt h]
    have e2 : (i + 1) / t.length = i / t.length := by
      rw [Nat.succ_div, if_neg]
      · rfl
      · intro hd
        have := Nat.mod_eq_zero_of_dvd hd
        omega
    rw [e1, e2]
    omega
  · rw [if_neg h]
    have hq : i % t.length + 1 = t.length := by omega
    have hd : t.length ∣ i + 1 := by
      refine Nat.dvd_of_mod_eq_zero ?_
      rw [Nat.add_mod]
      by_cases h1 : t.length = 1
      · rw [h1]; omega
      · rw [Nat.mod_eq_of_lt (show 1 < t.length by omega), hq, Nat.mod_self]
    have e1 : (i + 1) % t.length = 0 := Nat.mod_eq_zero_of_dvd hd
    have e2 : (i + 1) / t.length = i / t.length + 1 := by rw [Nat.succ_div, if_pos hd]
    rw [e1, e2, headD_eq]
    generalize i / t.length = q
    have : ((q + 1 : Nat) : Int) * len = (q : Int) * len + len := by
      rw [show ((q + 1 : Nat) : Int) = (q : Int) + 1 by omega, Int.add_mul]
      omega
    omega

/-- a round that can be: rising, the last ahead of the next first -/
structure Rnd (t : List Int) (len : Int) : Prop where
  asc : t.Pairwise (· < ·)
  pos : 0 < len
  last : t.getLastD 0 < t.headD 0 + len
theorem gap_pos {t : List Int} {len : Int} (R : Rnd t len) {r : Nat} (h : r < t.length) : 0 < (gapsRound t len).getD r 0 := by
  rw [gaps_get h]
  split
  · have := asc_get R.asc (show r < r + 1 by omega) (by assumption)
    omega
  · have hr : r = t.length - 1 := by omega
    have := R.last
    rw [lastD_eq (fun z => by rw [z] at h; cases h), ← hr] at this
    omega
theorem rt_mono1 {t : List Int} {len : Int} (R : Rnd t len) (ht : t ≠ []) (i : Nat) : rt t len i < rt t len (i + 1) := by
  rw [rt_succ ht]
  have := gap_pos R (Nat.mod_lt i (List.length_pos_iff.mpr ht))
  omega
theorem rt_mono {t : List Int} {len : Int} (R : Rnd t len) (ht : t ≠ []) {i j : Nat} (h : i < j) : rt t len i < rt t len j := by
  induction j with
  | zero => cases h
  | succ j ih =>
    have := rt_mono1 R ht j
    by_cases e : i = j
    · rw [e]; exact this
    · have := ih (by omega)
      omega
theorem rt_mul {t : List Int} {len : Int} (ht : t ≠ []) (i k : Nat) : rt t len (i + k * t.length) = rt t len i + (k : Int) * len := by
  have hn : 0 < t.length := List.length_pos_iff.mpr ht
  unfold rt
  rw [Nat.add_mul_mod_self_right, Nat.add_mul_div_right _ _ hn]
  rw [show ((i / t.length + k : Nat) : Int) = ((i / t.length : Nat) : Int) + (k : Int) by omega, Int.add_mul]
  omega

/-! ### a part of the gaps that comes again and again -/
theorem flat_get {α : Type} (l : List α) : ∀ (k i : Nat), i < k * l.length → (List.replicate k l).flatten[i]? = l[i % l.length]?
  | 0, i, h => by simp at h
  | k + 1, i, h => by
    rw [List.replicate_succ, List.flatten_cons, List.getElem?_append]
    by_cases hi : i < l.length
    · rw [if_pos hi, Nat.mod_eq_of_lt hi]
    · rw [if_neg hi, flat_get l k (i - l.length) (by rw [Nat.succ_mul] at h; omega)]
      congr 1
      conv => rhs; rw [show i = (i - l.length) + l.length by omega, Nat.add_mod_right]
structure Part (g : List Int) (m : Nat) : Prop where
  one : 1 ≤ m
  dvd : m ∣ g.length
  per : ∀ i, i < g.length → g.getD i 0 = g.getD (i % m) 0
theorem part_of {g : List Int} {m : Nat} (h1 : 1 ≤ m) (hg : g ≠ []) (h : partOk g m = true) : Part g m := by
  unfold partOk at h
  rw [Bool.and_eq_true] at h
  have hd : m ∣ g.length := Nat.dvd_of_mod_eq_zero (of_decide_eq_true h.1)
  have he := of_decide_eq_true h.2
  have hn : 0 < g.length := List.length_pos_iff.mpr hg
  have hm : m ≤ g.length := Nat.le_of_dvd hn hd
  refine ⟨h1, hd, fun i hi => ?_⟩
  have hl : (g.take m).length = m := by rw [List.length_take]; omega
  have hmul : g.length / m * m = g.length := Nat.div_mul_cancel hd
  have := flat_get (g.take m) (g.length / m) i (by rw [hl, hmul]; exact hi)
  rw [← he, hl] at this
  rw [List.getD_eq_getElem?_getD, this, List.getElem?_take, if_pos (Nat.mod_lt _ (by omega)), ← List.getD_eq_getElem?_getD]
theorem part_to {g : List Int} {m : Nat} (P : Part g m) : partOk g m = true := by
  unfold partOk
  rw [Bool.and_eq_true]
  refine ⟨decide_eq_true (Nat.mod_eq_zero_of_dvd P.dvd), decide_eq_true ?_⟩
  by_cases hg : g.length = 0
  · rw [List.length_eq_zero_iff.mp hg]; simp
  have hm : m ≤ g.length := Nat.le_of_dvd (by omega) P.dvd
  have hl : (g.take m).length = m := by rw [List.length_take]; omega
  have hmul : g.length / m * m = g.length := Nat.div_mul_cancel P.dvd
  refine List.ext_getElem? fun i => ?_
  by_cases hi : i < g.length
  · rw [flat_get _ _ i (by rw [hl, hmul]; exact hi), hl, List.getElem?_take, if_pos (Nat.mod_lt _ P.one)]
    have h1 := P.per i hi
    have h2 : i % m < g.length := Nat.lt_of_lt_of_le (Nat.mod_lt _ P.one) hm
    rw [getD_eq hi, getD_eq h2] at h1
    rw [List.getElem?_eq_getElem hi, List.getElem?_eq_getElem h2, h1]
  · rw [List.getElem?_eq_none (by omega), List.getElem?_eq_none]
    rw [List.length_flatten, List.map_replicate, List.sum_replicate_nat, hl, hmul]
    omega
theorem leastFrom_part {g : List Int} (hg : g ≠ []) : ∀ n m, 1 ≤ m → m ≤ g.length → n + m = g.length + 1 → Part g (leastFrom g n m) ∧ m ≤ leastFrom g n m ∧ ∀ k, m ≤ k → Part g k → leastFrom g n m ≤ k
  | 0, m, h1, h2, hn => by omega
  | n + 1, m, h1, h2, hn => by
    unfold leastFrom
    by_cases h : partOk g m = true
    · rw [if_pos h]
      exact ⟨part_of h1 hg h, Nat.le_refl _, fun k hk _ => hk⟩
    · rw [if_neg h]
      have hm : m < g.length := by
        rcases Nat.lt_or_ge m g.length with z | z
        · exact z
        · exfalso
          have : m = g.length := by omega
          refine h (part_to ⟨h1, by rw [this]; exact Nat.dvd_refl _, fun i hi => by rw [this, Nat.mod_eq_of_lt hi]⟩)
      obtain ⟨a, b, c⟩ := leastFrom_part hg n (m + 1) (by omega) (by omega) (by omega)
      refine ⟨a, by omega, fun k hk hp => c k ?_ hp⟩
      rcases Nat.lt_or_ge m k with z | z
      · exact z
      · exfalso
        have : k = m := by omega
        rw [this] at hp
        exact h (part_to hp)
theorem least_part {g : List Int} (hg : g ≠ []) : Part g (least g) ∧ ∀ k, Part g k → least g ≤ k := by
  obtain ⟨a, _, c⟩ := leastFrom_part hg g.length 1 (Nat.le_refl _) (List.length_pos_iff.mpr hg) (by omega)
  exact ⟨a, fun k hp => c k hp.one hp⟩
theorem sum_take {t : List Int} {len : Int} (ht : t ≠ []) : ∀ k, k ≤ t.length → ((gapsRound t len).take k).sum = rt t len k - rt t len 0
  | 0, _ => by simp
  | k + 1, h => by
    have hk : k < (gapsRound t len).length := by rw [gaps_len]; omega
    rw [List.take_add_one, List.getElem?_eq_getElem hk, List.sum_append, sum_take ht k (by omega), rt_succ ht, Nat.mod_eq_of_lt (by omega), getD_eq hk]
    simp
    omega
theorem getD_take {l : List Int} {m i : Nat} (h : i < m) : (l.take m).getD i 0 = l.getD i 0 := by
  rw [List.getD_eq_getElem?_getD, List.getElem?_take, if_pos h, ← List.getD_eq_getElem?_getD]
/-- the round of the least part has the same ticks -/
theorem rt_part {t : List Int} {len : Int} {m : Nat} (ht : t ≠ []) (P : Part (gapsRound t len) m) (i : Nat) : rt (t.take m) (((gapsRound t len).take m).sum) i = rt t len i := by
  have hn : 0 < t.length := List.length_pos_iff.mpr ht
  have hg := gaps_len (t := t) (len := len)
  have hmd : m ∣ t.length := hg ▸ P.dvd
  have hm : m ≤ t.length := Nat.le_of_dvd hn hmd
  have h1 := P.one
  rw [sum_take ht m hm]
  have hper : ∀ i, (gapsRound t len).getD (i % t.length) 0 = (gapsRound t len).getD (i % m) 0 := fun i => by
    rw [P.per (i % t.length) (by rw [hg]; exact Nat.mod_lt _ hn), Nat.mod_mod_of_dvd _ hmd]
  have step : ∀ i, rt t len (i + m) = rt t len i + (rt t len m - rt t len 0) := by
    intro i
    induction i with
    | zero => rw [Nat.zero_add]; omega
    | succ i ih =>
      rw [show i + 1 + m = (i + m) + 1 by omega, rt_succ ht, rt_succ ht, ih, hper (i + m), hper i, Nat.add_mod_right]
      omega
  have many : ∀ q r, rt t len (r + q * m) = rt t len r + (q : Int) * (rt t len m - rt t len 0) := by
    intro q r
    induction q with
    | zero => simp
    | succ q ih =>
      rw [show r + (q + 1) * m = (r + q * m) + m by rw [Nat.succ_mul]; omega, step, ih, show ((q + 1 : Nat) : Int) = (q : Int) + 1 by omega, Int.add_mul]
      omega
  have hl : (t.take m).length = m := by rw [List.length_take]; omega
  have hr : i % m < m := Nat.mod_lt _ h1
  have := many (i / m) (i % m)
  rw [show i % m + i / m * m = i by rw [Nat.mul_comm]; exact Nat.mod_add_div i m] at this
  rw [this, rt_lt (show i % m < t.length by omega)]
  unfold rt
  rw [hl, getD_take hr]
theorem rnd_part {t : List Int} {len : Int} {m : Nat} (ht : t ≠ []) (R : Rnd t len) (P : Part (gapsRound t len) m) : Rnd (t.take m) (((gapsRound t len).take m).sum) ∧ ((gapsRound t len).take m).sum ≤ len ∧ t.take m ≠ [] := by
  have hn : 0 < t.length := List.length_pos_iff.mpr ht
  have hmd : m ∣ t.length := gaps_len (t := t) (len := len) ▸ P.dvd
  have hm : m ≤ t.length := Nat.le_of_dvd hn hmd
  have h1 := P.one
  have hl : (t.take m).length = m := by rw [List.length_take]; omega
  have hne : t.take m ≠ [] := fun z => by rw [z] at hl; simp at hl; omega
  have h0 := rt_mono R ht (show 0 < m by omega)
  have hlen : rt t len t.length = rt t len 0 + len := by
    have := rt_mul (len := len) ht 0 1
    simpa using this
  refine ⟨⟨R.asc.sublist (List.take_sublist _ _), ?_, ?_⟩, ?_, hne⟩
  · rw [sum_take ht m hm]; omega
  · rw [sum_take ht m hm, lastD_eq hne, headD_eq, hl, getD_take (by omega), getD_take (by omega)]
    have := rt_mono R ht (show m - 1 < m by omega)
    rw [rt_lt (show m - 1 < t.length by omega)] at this
    rw [← rt_lt (len := len) (show 0 < t.length by omega)]
    omega
  · rw [sum_take ht m hm]
    rcases Nat.lt_or_ge m t.length with z | z
    · have := rt_mono R ht z
      omega
    · have : m = t.length := by omega
      rw [this]
      omega

/-! ### a form -/
structure WF (f : Form) : Prop where
  asc : (f.front ++ f.round).Pairwise (· < ·)
  nn : ∀ x ∈ f.front ++ f.round, 0 ≤ x
  len0 : f.round = [] → f.len = 0
  rnd : f.round ≠ [] → Rnd f.round f.len
  short : f.len ≤ 5040
/-- the i-th tick -/
def tk (f : Form) (i : Nat) : Option Int := if i < f.front.length then f.front[i]? else if f.round = [] then none else some (rt f.round f.len (i - f.front.length))
theorem tickAt_tk (f : Form) (i : Nat) : tickAt f (i : Int) = tk f i := by
  unfold tickAt tk
  by_cases h : i < f.front.length
  · rw [if_pos (by omega), if_pos h, Int.toNat_natCast]
  · rw [if_neg (by omega), if_neg h]
    by_cases hr : f.round = []
    · rw [if_pos hr, if_pos hr]
    · rw [if_neg hr, if_neg hr]
      have hn : 0 < f.round.length := List.length_pos_iff.mpr hr
      obtain ⟨k, hk⟩ : ∃ k : Nat, i = f.front.length + k := ⟨i - f.front.length, by omega⟩
      subst hk
      rw [show f.front.length + k - f.front.length = k by omega, show ((f.front.length + k : Nat) : Int) - (f.front.length : Int) = (k : Int) by omega]
      unfold rt
      have e1 : ((k : Int) % (f.round.length : Int)).toNat = k % f.round.length := by
        rw [← Int.natCast_emod, Int.toNat_natCast]
      have e2 : (k : Int) / (f.round.length : Int) = ((k / f.round.length : Nat) : Int) := by
        rw [Int.natCast_ediv]
      dsimp only
      rw [e1, e2]
theorem last_rev {x : Int} {r : List Int} : (x :: r).reverse = r.reverse ++ [x] := by simp
/-- the front's last goes over into the round -/
theorem roll_rt {t : List Int} {len x : Int} (ht : t ≠ []) (hx : x + len = t.getLastD 0) (i : Nat) : rt (x :: t.dropLast) len (i + 1) = rt t len i ∧ rt (x :: t.dropLast) len 0 = x := by
  have hn : 0 < t.length := List.length_pos_iff.mpr ht
  have hl : (x :: t.dropLast).length = t.length := by rw [List.length_cons, List.length_dropLast]; omega
  have hget : ∀ j, j + 1 < t.length → (x :: t.dropLast).getD (j + 1) 0 = t.getD j 0 := fun j hj => by
    show t.dropLast.getD j 0 = _
    rw [List.dropLast_eq_take, getD_take (by omega)]
  refine ⟨?_, ?_⟩
  · unfold rt
    rw [hl]
    have hr : i % t.length < t.length := Nat.mod_lt _ hn
    by_cases h : i % t.length + 1 < t.length
    · have e1 : (i + 1) % t.length = i % t.length + 1 := by rw [Nat.add_mod, Nat.mod_eq_of_lt (show 1 < t.length by omega), Nat.mod_eq_of_lt h]
      have e2 : (i + 1) / t.length = i / t.length := by
        rw [Nat.succ_div, if_neg]
        · rfl
        · intro hd
          have := Nat.mod_eq_zero_of_dvd hd
          omega
      rw [e1, e2, hget _ h]
    · have hq : i % t.length + 1 = t.length := by omega
      have hd : t.length ∣ i + 1 := by
        refine Nat.dvd_of_mod_eq_zero ?_
        rw [Nat.add_mod]
        by_cases h1 : t.length = 1
        · rw [h1]; omega
        · rw [Nat.mod_eq_of_lt (show 1 < t.length by omega), hq, Nat.mod_self]
      have e1 : (i + 1) % t.length = 0 := Nat.mod_eq_zero_of_dvd hd
      have e2 : (i + 1) / t.length = i / t.length + 1 := by rw [Nat.succ_div, if_pos hd]
      rw [e1, e2]
      rw [lastD_eq ht] at hx
      rw [show i % t.length = t.length - 1 by omega]
      generalize i / t.length = q
      have : ((q + 1 : Nat) : Int) * len = (q : Int) * len + len := by
        rw [show ((q + 1 : Nat) : Int) = (q : Int) + 1 by omega, Int.add_mul]
        omega
      show x + _ = _
      omega
  · unfold rt
    simp
theorem roll_wf : ∀ (r t : List Int) (len : Int), t ≠ [] → WF ⟨r.reverse, t, len⟩ → WF ⟨(rollBack len r t).1, (rollBack len r t).2, len⟩ ∧ (rollBack len r t).2 ≠ [] ∧ (rollBack len r t).2.length = t.length ∧ ∀ i, tk ⟨(rollBack len r t).1, (rollBack len r t).2, len⟩ i = tk ⟨r.reverse, t, len⟩ i
  | [], t, len, ht, W => ⟨W, ht, rfl, fun _ => rfl⟩
  | x :: r, t, len, ht, W => by
    unfold rollBack
    by_cases h : x + len = t.getLastD 0
    · rw [if_pos h]
      have hn : 0 < t.length := List.length_pos_iff.mpr ht
      have R : Rnd t len := W.rnd ht
      have hdl : ∀ y ∈ t.dropLast, y ∈ t := fun y hy => List.dropLast_subset _ hy
      have hsub : (r.reverse ++ (x :: t.dropLast)).Sublist ((x :: r).reverse ++ t) := by
        rw [last_rev, List.append_assoc]
        exact (List.Sublist.refl _).append (.cons₂ x (List.dropLast_sublist _))
      have hxl : x < t.headD 0 := by
        have := R.last
        omega
      have W2 : WF ⟨r.reverse, x :: t.dropLast, len⟩ := by
        refine ⟨W.asc.sublist hsub, fun y hy => W.nn y (hsub.subset hy), fun z => (nomatch z), fun _ => ⟨?_, R.pos, ?_⟩, W.short⟩
        · have := W.asc.sublist hsub
          exact (List.pairwise_append.mp this).2.1
        · show (x :: t.dropLast).getLastD 0 < x + len
          rw [h]
          cases hd : t.dropLast with
          | nil =>
            show x < _
            have := R.pos
            omega
          | cons y l =>
            have h2 : t.dropLast ≠ [] := by rw [hd]; exact List.cons_ne_nil _ _
            have hl2 : 1 < t.length := by
              have : 0 < t.dropLast.length := List.length_pos_iff.mpr h2
              rw [List.length_dropLast] at this
              omega
            show (y :: l).getLastD x < _
            have e : (y :: l).getLastD x = t.dropLast.getLastD 0 := by rw [hd]; rfl
            rw [e, lastD_eq h2, List.length_dropLast, List.dropLast_eq_take, getD_take (by omega), lastD_eq ht]
            exact asc_get R.asc (by omega) (by omega)
      obtain ⟨a, b, c, d⟩ := roll_wf r (x :: t.dropLast) len (List.cons_ne_nil _ _) W2
      refine ⟨a, b, by rw [c, List.length_cons, List.length_dropLast]; omega, fun i => ?_⟩
      rw [d i]
      unfold tk
      dsimp only
      rw [if_neg (List.cons_ne_nil _ _), if_neg ht, last_rev, List.length_append, List.length_singleton]
      by_cases h1 : i < r.reverse.length
      · rw [if_pos h1, if_pos (by omega), List.getElem?_append, if_pos h1]
      · rw [if_neg h1]
        by_cases h2 : i < r.reverse.length + 1
        · have h3 : i = r.reverse.length := by omega
          rw [if_pos h2, h3, Nat.sub_self, (roll_rt ht h 0).2, List.getElem?_append, if_neg (by omega), Nat.sub_self]
          rfl
        · rw [if_neg h2, show i - r.reverse.length = (i - (r.reverse.length + 1)) + 1 by omega, (roll_rt ht h _).1]
    · rw [if_neg h]
      exact ⟨W, ht, rfl, fun _ => rfl⟩
/-- settled: the same ticks, told the shortest way -/
theorem settled_wf {front t : List Int} {len : Int} (ht : t ≠ []) (W : WF ⟨front, t, len⟩) : WF (settled front t len) ∧ (settled front t len).round ≠ [] ∧ (settled front t len).len ≤ len ∧ ∀ i, tk (settled front t len) i = tk ⟨front, t, len⟩ i := by
  unfold settled
  rw [if_neg ht]
  dsimp only
  have hg : gapsRound t len ≠ [] := fun z => by
    have := gaps_len (t := t) (len := len)
    rw [z] at this
    exact ht (List.length_eq_zero_iff.mp this.symm)
  obtain ⟨P, _⟩ := least_part hg
  obtain ⟨R2, hle, hne⟩ := rnd_part ht (W.rnd ht) P
  have W2 : WF ⟨front, t.take (least (gapsRound t len)), ((gapsRound t len).take (least (gapsRound t len))).sum⟩ := by
    have hsub : (front ++ t.take (least (gapsRound t len))).Sublist (front ++ t) := (List.Sublist.refl _).append (List.take_sublist _ _)
    refine ⟨W.asc.sublist hsub, fun y hy => W.nn y (hsub.subset hy), fun z => absurd z hne, fun _ => R2, Int.le_trans hle W.short⟩
  obtain ⟨a, b, c, d⟩ := roll_wf front.reverse _ _ hne (by rw [List.reverse_reverse]; exact W2)
  refine ⟨a, b, hle, fun i => ?_⟩
  rw [d i, List.reverse_reverse]
  unfold tk
  dsimp only
  rw [if_neg hne, if_neg ht]
  by_cases h : i < front.length
  · rw [if_pos h, if_pos h]
  · rw [if_neg h, if_neg h, rt_part ht P]
theorem settled_nil {front : List Int} {len : Int} : settled front [] len = ⟨front, [], 0⟩ := by
  unfold settled
  rw [if_pos rfl]

/-! ### gates -/
theorem gcdZ_nat (n q : Nat) : gcdZ (n : Int) (q : Int) = ((Nat.gcd n q : Nat) : Int) := rfl
def lcmN (n q : Nat) : Nat := n / Nat.gcd n q * q
theorem lcmZ_nat (n q : Nat) : lcmZ (n : Int) (q : Int) = ((lcmN n q : Nat) : Int) := by
  unfold lcmZ lcmN
  rw [gcdZ_nat, ← Int.natCast_ediv, ← Int.natCast_mul]
theorem lcmN_right (n q : Nat) : q ∣ lcmN n q := Nat.dvd_mul_left _ _
theorem lcmN_left (n q : Nat) : n ∣ lcmN n q := by
  obtain ⟨a, ha⟩ := Nat.gcd_dvd_left n q
  obtain ⟨b, hb⟩ := Nat.gcd_dvd_right n q
  unfold lcmN
  by_cases hg : Nat.gcd n q = 0
  · have : n = 0 := (Nat.gcd_eq_zero_iff.mp hg).1
    rw [this]
    simp
  · have e : n / Nat.gcd n q = a := by
      conv => lhs; lhs; rw [ha]
      exact Nat.mul_div_cancel_left _ (by omega)
    rw [e]
    refine ⟨b, ?_⟩
    conv => rhs; lhs; rw [ha]
    conv => lhs; rhs; rw [hb]
    rw [Nat.mul_comm (Nat.gcd n q) a, Nat.mul_assoc]
theorem lcmN_pos {n q : Nat} (h : 0 < n) (h' : 0 < q) : 0 < lcmN n q := by
  unfold lcmN
  have hg : 0 < Nat.gcd n q := Nat.gcd_pos_of_pos_left _ h
  exact Nat.mul_pos (Nat.div_pos (Nat.gcd_le_left _ h) hg) h'
theorem lcmN_le {n q : Nat} : lcmN n q ≤ n * q := Nat.mul_le_mul_right _ (Nat.div_le_self _ _)
/-- the numbers of a round's so many turns by which a sign stands -/
def nums (bits : List Bool) (from_ many : Nat) : List Nat := (List.range many).filter fun i => bitAt bits ((from_ + i : Nat) : Int)
def rawGate (f : Form) (bits : List Bool) : Form :=
  ⟨keptFrom bits 0 f.front, (nums bits f.front.length (lcmN f.round.length bits.length)).map (rt f.round f.len), f.len * ((lcmN f.round.length bits.length / f.round.length : Nat) : Int)⟩
theorem tickZ_rt {f : Form} (h : f.round ≠ []) (i : Nat) : tickZ f ((f.front.length : Int) + (i : Int)) = rt f.round f.len i := by
  unfold tickZ
  have := tickAt_tk f (f.front.length + i)
  rw [show ((f.front.length + i : Nat) : Int) = (f.front.length : Int) + (i : Int) by omega] at this
  rw [this]
  unfold tk
  rw [if_neg (by omega), if_neg h, show f.front.length + i - f.front.length = i by omega]
  rfl
theorem gated_raw {f : Form} {bits : List Bool} (h : f.round ≠ []) : gated f bits = if (rawGate f bits).len > 5040 then none else some (settled (rawGate f bits).front (rawGate f bits).round (rawGate f bits).len) := by
  unfold gated rawGate
  dsimp only
  rw [if_neg h, lcmZ_nat, ← Int.natCast_ediv, Int.toNat_natCast]
  have e : ((rangeZ (f.front.length : Int) (lcmN f.round.length bits.length)).filter (bitAt bits)).map (tickZ f) = (nums bits f.front.length (lcmN f.round.length bits.length)).map (rt f.round f.len) := by
    unfold rangeZ nums
    rw [List.filter_map, List.map_map]
    have e1 : (bitAt bits ∘ fun i : Nat => (f.front.length : Int) + (i : Int)) = fun i : Nat => bitAt bits ((f.front.length + i : Nat) : Int) := by
      funext i
      show bitAt bits _ = _
      congr 1
    have e2 : (tickZ f ∘ fun i : Nat => (f.front.length : Int) + (i : Int)) = rt f.round f.len := by
      funext i
      exact tickZ_rt h i
    rw [e1, e2]
  rw [e]
theorem kept_sub (bits : List Bool) : ∀ (k : Nat) (l : List Int), (keptFrom bits k l).Sublist l
  | _, [] => .slnil
  | k, x :: r => by
    rw [keptFrom]
    split
    · exact .cons₂ x (kept_sub bits (k + 1) r)
    · exact .cons x (kept_sub bits (k + 1) r)
theorem rt_period {t : List Int} {len : Int} (ht : t ≠ []) {M : Nat} (h : t.length ∣ M) (i : Nat) : rt t len (i + M) = rt t len i + len * ((M / t.length : Nat) : Int) := by
  have := rt_mul (len := len) ht i (M / t.length)
  rw [Nat.div_mul_cancel h] at this
  rw [this, Int.mul_comm]
theorem nums_lt {bits : List Bool} {a M i : Nat} (h : i ∈ nums bits a M) : i < M := List.mem_range.mp (List.mem_filter.mp h).1
theorem nums_asc (bits : List Bool) (a M : Nat) : (nums bits a M).Pairwise (· < ·) := List.Pairwise.filter _ List.pairwise_lt_range
theorem headD_mem {l : List Int} (h : l ≠ []) : l.headD 0 ∈ l := by cases l <;> simp_all
theorem lastD_mem {l : List Int} (h : l ≠ []) : l.getLastD 0 ∈ l := by
  rw [List.getLastD_eq_getLast?, List.getLast?_eq_some_getLast h]
  exact List.getLast_mem h
theorem front_lt {f : Form} (W : WF f) (h : f.round ≠ []) {x : Int} (hx : x ∈ f.front) (i : Nat) : x < rt f.round f.len i := by
  have hn : 0 < f.round.length := List.length_pos_iff.mpr h
  have h1 := (List.pairwise_append.mp W.asc).2.2 x hx (f.round.headD 0) (headD_mem h)
  rw [headD_eq, ← rt_lt (len := f.len) hn] at h1
  by_cases hi : i = 0
  · rw [hi]; exact h1
  · have := rt_mono (W.rnd h) h (show 0 < i by omega)
    omega
theorem rt_nn {f : Form} (W : WF f) (h : f.round ≠ []) (i : Nat) : 0 ≤ rt f.round f.len i := by
  have hn : 0 < f.round.length := List.length_pos_iff.mpr h
  have h1 := W.nn (f.round.getD 0 0) (List.mem_append_right _ (getD_mem hn))
  rw [← rt_lt (len := f.len) hn] at h1
  by_cases hi : i = 0
  · rw [hi]; exact h1
  · have := rt_mono (W.rnd h) h (show 0 < i by omega)
    omega
theorem rawGate_wf {f : Form} {bits : List Bool} (W : WF f) (h : f.round ≠ []) (hb : 1 ≤ bits.length) (hw : (rawGate f bits).len ≤ 5040) (hr : (rawGate f bits).round ≠ []) : WF (rawGate f bits) := by
  have hn : 0 < f.round.length := List.length_pos_iff.mpr h
  have R := W.rnd h
  have hM := lcmN_pos hn hb
  have hMd := lcmN_left f.round.length bits.length
  have hper := rt_period (len := f.len) h hMd 0
  rw [Nat.zero_add] at hper
  have mem : ∀ x ∈ (rawGate f bits).round, ∃ i, i < lcmN f.round.length bits.length ∧ x = rt f.round f.len i := fun x hx => by
    obtain ⟨i, hi, rfl⟩ := List.mem_map.mp hx
    exact ⟨i, nums_lt hi, rfl⟩
  have hpos : 0 < (rawGate f bits).len := by
    show 0 < f.len * _
    refine Int.mul_pos R.pos ?_
    have := Nat.div_pos (Nat.le_of_dvd hM hMd) hn
    omega
  refine ⟨?_, ?_, fun z => absurd z hr, fun _ => ⟨?_, hpos, ?_⟩, hw⟩
  · refine List.pairwise_append.mpr ⟨(List.pairwise_append.mp W.asc).1.sublist (kept_sub _ _ _), ?_, ?_⟩
    · refine List.pairwise_map.mpr ((nums_asc _ _ _).imp fun {a b} hab => rt_mono R h hab)
    · intro x hx y hy
      obtain ⟨i, _, rfl⟩ := mem y hy
      exact front_lt W h ((kept_sub _ _ _).subset hx) i
  · intro x hx
    rcases List.mem_append.mp hx with hx | hx
    · exact W.nn x (List.mem_append_left _ ((kept_sub _ _ _).subset hx))
    · obtain ⟨i, _, rfl⟩ := mem x hx
      exact rt_nn W h i
  · exact List.pairwise_map.mpr ((nums_asc _ _ _).imp fun {a b} hab => rt_mono R h hab)
  · obtain ⟨i, hi, ei⟩ := mem _ (lastD_mem hr)
    obtain ⟨j, hj, ej⟩ := mem _ (headD_mem hr)
    rw [ei, ej]
    have h1 := rt_mono R h hi
    have h2 : rt f.round f.len 0 ≤ rt f.round f.len j := by
      by_cases hj : j = 0
      · rw [hj]; omega
      · have := rt_mono R h (show 0 < j by omega)
        omega
    have h3 : (rawGate f bits).len = f.len * ((lcmN f.round.length bits.length / f.round.length : Nat) : Int) := rfl
    omega
theorem WF.nil {front : List Int} (h1 : front.Pairwise (· < ·)) (h2 : ∀ x ∈ front, 0 ≤ x) : WF ⟨front, [], 0⟩ :=
  ⟨by rw [List.append_nil]; exact h1, fun x hx => h2 x (by rw [List.append_nil] at hx; exact hx), fun _ => rfl, fun z => absurd rfl z, by show (0 : Int) ≤ 5040; decide⟩
theorem gated_wf {f g : Form} {bits : List Bool} (W : WF f) (hb : 1 ≤ bits.length) (e : gated f bits = some g) : WF g := by
  have hk : WF ⟨keptFrom bits 0 f.front, [], 0⟩ := WF.nil ((List.pairwise_append.mp W.asc).1.sublist (kept_sub _ _ _)) fun x hx => W.nn x (List.mem_append_left _ ((kept_sub _ _ _).subset hx))
  by_cases h : f.round = []
  · unfold gated at e
    dsimp only at e
    rw [if_pos h] at e
    cases e
    exact hk
  · rw [gated_raw h] at e
    by_cases hw : (rawGate f bits).len > 5040
    · rw [if_pos hw] at e; cases e
    · rw [if_neg hw] at e
      cases e
      by_cases hr : (rawGate f bits).round = []
      · rw [hr, settled_nil]
        exact hk
      · exact (settled_wf hr (rawGate_wf W h hb (by omega) hr)).1
theorem later_wf {f : Form} (W : WF f) (m : Nat) : WF (laterF f m) := by
  have hm : (laterF f m).front ++ (laterF f m).round = (f.front ++ f.round).map (· + (m : Int)) := by
    unfold laterF
    rw [List.map_append]
  refine ⟨?_, ?_, fun z => W.len0 (List.map_eq_nil_iff.mp z), fun z => ?_, W.short⟩
  · rw [hm]
    exact List.pairwise_map.mpr (W.asc.imp fun {a b} h => by omega)
  · rw [hm]
    intro x hx
    obtain ⟨y, hy, rfl⟩ := List.mem_map.mp hx
    have := W.nn y hy
    omega
  · have hr : f.round ≠ [] := fun q => z (by unfold laterF; rw [q]; rfl)
    have R := W.rnd hr
    have hn : 0 < f.round.length := List.length_pos_iff.mpr hr
    refine ⟨List.pairwise_map.mpr (R.asc.imp fun {a b} h => by omega), R.pos, ?_⟩
    have hl := R.last
    rw [lastD_eq hr, headD_eq] at hl
    rw [lastD_eq z, headD_eq]
    show ((f.round.map (· + (m : Int))).getD ((f.round.map (· + (m : Int))).length - 1) 0) < _ + f.len
    rw [List.length_map]
    rw [getD_eq (show f.round.length - 1 < f.round.length by omega), getD_eq hn] at hl
    rw [getD_eq (show f.round.length - 1 < (f.round.map (· + (m : Int))).length by rw [List.length_map]; omega)]
    show _ < (f.round.map (· + (m : Int))).getD 0 0 + f.len
    rw [getD_eq (show 0 < (f.round.map (· + (m : Int))).length by rw [List.length_map]; omega), List.getElem_map, List.getElem_map]
    omega
/-- a form told late enough is not too great -/
structure Few (f : Form) : Prop where
  front : f.front.length ≤ 6000
  round : f.round.length ≤ 6000
  len : f.round ≠ [] → 0 < f.len
  lo : 0 ≤ f.len
  hi : f.len ≤ 6000
theorem lateOf_round {f : Form} (h : f.round ≠ []) : lateOf f = f.round.headD 0 := by
  unfold lateOf
  cases hr : f.round with
  | nil => exact absurd hr h
  | cons x r => rfl
theorem lateOf_front {f : Form} (h : f.round = []) (h' : f.front ≠ []) : lateOf f = f.front.getLastD 0 := by
  unfold lateOf
  rw [h]
  have hp : 0 < f.front.length := List.length_pos_iff.mpr h'
  have : f.front.drop (f.front.length - 1) = [f.front.getLastD 0] := by
    rw [lastD_eq h', getD_eq (show f.front.length - 1 < f.front.length by omega)]
    rw [List.drop_eq_getElem_cons (show f.front.length - 1 < f.front.length by omega)]
    rw [show f.front.length - 1 + 1 = f.front.length by omega, List.drop_length]
  rw [this]
  rfl
theorem few_of {f : Form} (W : WF f) (hl : lateOf f ≤ 5040) : Few f := by
  have hf : (f.front.length : Int) ≤ 5041 := by
    have hasc := (List.pairwise_append.mp W.asc).1
    refine Int.le_trans (asc_len (lo := 0) (hi := 5041) hasc (fun x hx => ⟨W.nn x (List.mem_append_left _ hx), ?_⟩) (by omega)) (by omega)
    by_cases hr : f.round = []
    · have hne : f.front ≠ [] := fun z => by rw [z] at hx; cases hx
      rw [lateOf_front hr hne] at hl
      obtain ⟨i, hi, rfl⟩ := List.getElem_of_mem hx
      rw [lastD_eq hne] at hl
      by_cases h2 : i = f.front.length - 1
      · rw [← h2, getD_eq hi] at hl
        omega
      · have := asc_get hasc (show i < f.front.length - 1 by omega) (by omega)
        rw [getD_eq hi] at this
        omega
    · rw [lateOf_round hr] at hl
      have := (List.pairwise_append.mp W.asc).2.2 x hx _ (headD_mem hr)
      omega
  have hlo : 0 ≤ f.len := by
    by_cases hr : f.round = []
    · rw [W.len0 hr]; omega
    · have := (W.rnd hr).pos; omega
  have hs := W.short
  refine ⟨by omega, ?_, fun h => (W.rnd h).pos, hlo, by omega⟩
  by_cases hr : f.round = []
  · rw [hr]; simp
  · have R := W.rnd hr
    have := asc_len (lo := f.round.headD 0) (hi := f.round.headD 0 + f.len) R.asc (fun x hx => ?_) (by omega)
    · omega
    · obtain ⟨i, hi, rfl⟩ := List.getElem_of_mem hx
      have hl := R.last
      rw [lastD_eq hr] at hl
      rw [headD_eq] at hl ⊢
      constructor
      · by_cases h0 : i = 0
        · subst h0; rw [getD_eq hi]; omega
        · have := asc_get R.asc (show 0 < i by omega) hi
          rw [getD_eq hi] at this
          omega
      · by_cases h2 : i = f.round.length - 1
        · rw [← h2, getD_eq hi] at hl
          omega
        · have := asc_get R.asc (show i < f.round.length - 1 by omega) (by omega)
          rw [getD_eq hi] at this
          omega
theorem checked_some {f g : Form} (h : checked f = some g) : g = f ∧ lateOf f ≤ 5040 := by
  unfold checked at h
  split at h
  · cases h
  · cases h
    exact ⟨rfl, by omega⟩
end TD

/-! Gates around the source: their rate. -/
namespace TD
theorem even_facts : ∀ q, q ≤ 12 → ∀ p, p ≤ 12 → 1 ≤ p → p ≤ q → (evenBits p q).count true = p ∧ (evenBits p q).getD 0 false = true := by decide +kernel
theorem even_length (p q : Nat) : (evenBits p q).length = q := by simp [evenBits]
/-! ### how many ticks of a round stay -/
theorem count_filter (bits : List Bool) : ((List.range bits.length).filter fun j => bits.getD j false).length = bits.count true := by
  induction bits with
  | nil => rfl
  | cons b r ih =>
    rw [List.length_cons, List.range_succ_eq_map, List.filter_cons, List.filter_map, List.count_cons]
    have e : ((fun j => (b :: r).getD j false) ∘ Nat.succ) = fun j => r.getD j false := rfl
    rw [e]
    cases b
    · show (if false = true then _ else _ : List Nat).length = _
      rw [if_neg Bool.false_ne_true, List.length_map, ih]
      rfl
    · show (if true = true then _ else _ : List Nat).length = _
      rw [if_pos rfl, List.length_cons, List.length_map, ih]
      rfl
theorem bit_wrap {bits : List Bool} {k j : Nat} (h : j < bits.length) : bitAt bits ((k * bits.length + j : Nat) : Int) = bits.getD j false := by
  unfold bitAt
  have : ((k * bits.length + j : Nat) : Int) % (bits.length : Int) = (j : Int) := by
    rw [← Int.natCast_emod, Nat.mul_add_mod_of_lt' h]
  rw [this, Int.toNat_natCast]
where
  Nat.mul_add_mod_of_lt' {k n j : Nat} (h : j < n) : (k * n + j) % n = j := by
    rw [Nat.add_comm, Nat.add_mul_mod_self_right, Nat.mod_eq_of_lt h]
theorem nums_count (bits : List Bool) : ∀ k, (nums bits 0 (k * bits.length)).length = k * bits.count true
  | 0 => by simp [nums]
  | k + 1 => by
    have ih := nums_count bits k
    unfold nums at ih ⊢
    rw [Nat.succ_mul, List.range_add, List.filter_append, List.length_append, ih, List.filter_map, List.length_map, Nat.succ_mul]
    congr 1
    rw [← count_filter bits]
    congr 1
    refine List.filter_congr fun j hj => ?_
    have hj := List.mem_range.mp hj
    show bitAt bits ((0 + (k * bits.length + j) : Nat) : Int) = _
    rw [Nat.zero_add, bit_wrap hj]
/-! ### rates -/
theorem same_rate {n l t b : Nat} (hn : 0 < n) (hl : 0 < l) (ht : 0 < t) (hb : 0 < b) (h : n * b = l * t) : n / Nat.gcd n l = t / Nat.gcd t b ∧ l / Nat.gcd n l = b / Nat.gcd t b := by
  have g1 : 0 < Nat.gcd n l := Nat.gcd_pos_of_pos_left _ hn
  have g2 : 0 < Nat.gcd t b := Nat.gcd_pos_of_pos_left _ ht
  obtain ⟨a, ha⟩ := Nat.gcd_dvd_left n l
  obtain ⟨c, hc⟩ := Nat.gcd_dvd_right n l
  obtain ⟨d, hd⟩ := Nat.gcd_dvd_left t b
  obtain ⟨e, he⟩ := Nat.gcd_dvd_right t b
  have co1 : Nat.Coprime (n / Nat.gcd n l) (l / Nat.gcd n l) := Nat.coprime_div_gcd_div_gcd g1
  have co2 : Nat.Coprime (t / Nat.gcd t b) (b / Nat.gcd t b) := Nat.coprime_div_gcd_div_gcd g2
  generalize hg : Nat.gcd n l = g at *
  generalize hh : Nat.gcd t b = k at *
  have ea : n / g = a := by rw [ha]; exact Nat.mul_div_cancel_left _ g1
  have ec : l / g = c := by rw [hc]; exact Nat.mul_div_cancel_left _ g1
  have ed : t / k = d := by rw [hd]; exact Nat.mul_div_cancel_left _ g2
  have ee : b / k = e := by rw [he]; exact Nat.mul_div_cancel_left _ g2
  rw [ea, ec] at co1
  rw [ed, ee] at co2
  rw [ea, ec, ed, ee]
  have key : a * e = c * d := by
    have : (g * k) * (a * e) = (g * k) * (c * d) := by
      have h1 : n * b = (g * k) * (a * e) := by
        conv => lhs; rw [ha, he]
        simp only [Nat.mul_assoc, Nat.mul_left_comm, Nat.mul_comm]
      have h2 : l * t = (g * k) * (c * d) := by
        conv => lhs; rw [hc, hd]
        simp only [Nat.mul_assoc, Nat.mul_left_comm, Nat.mul_comm]
      rw [← h1, ← h2, h]
    exact Nat.eq_of_mul_eq_mul_left (Nat.mul_pos g1 g2) this
  have d1 : a ∣ d := co1.dvd_of_dvd_mul_left ⟨e, by rw [← key]⟩
  have d2 : d ∣ a := co2.dvd_of_dvd_mul_right ⟨c, by rw [key, Nat.mul_comm]⟩
  have e1 : a = d := Nat.dvd_antisymm d1 d2
  have hdpos : 0 < d := by
    rcases Nat.eq_zero_or_pos d with z | z
    · rw [z, Nat.mul_zero] at hd; omega
    · exact z
  refine ⟨e1, ?_⟩
  rw [e1, Nat.mul_comm c d] at key
  exact (Nat.eq_of_mul_eq_mul_left hdpos key).symm
/-- a form of gates: t ticks in b moments -/
structure Rated (f : Form) (t b : Nat) : Prop where
  wf : WF f
  front : f.front = []
  ne : f.round ≠ []
  head : f.round.headD 0 = 0
  rate : (f.round.length : Int) * (b : Int) = f.len * (t : Int)
  le : f.len ≤ (b : Int)
theorem settled_rate {t : List Int} {len : Int} (ht : t ≠ []) (W : WF ⟨[], t, len⟩) : (settled [] t len).front = [] ∧ (settled [] t len).round.headD 0 = t.headD 0 ∧ ((settled [] t len).round.length : Int) * len = (t.length : Int) * (settled [] t len).len := by
  have hg : gapsRound t len ≠ [] := fun z => by
    have := gaps_len (t := t) (len := len)
    rw [z] at this
    exact ht (List.length_eq_zero_iff.mp this.symm)
  obtain ⟨P, _⟩ := least_part hg
  have hn : 0 < t.length := List.length_pos_iff.mpr ht
  have hmd : least (gapsRound t len) ∣ t.length := gaps_len (t := t) (len := len) ▸ P.dvd
  have hm : least (gapsRound t len) ≤ t.length := Nat.le_of_dvd hn hmd
  have h1 := P.one
  have hr := rt_part ht P
  obtain ⟨R2, hle, hne⟩ := rnd_part ht (W.rnd ht) P
  unfold settled
  rw [if_neg ht]
  dsimp only
  have er : ∀ (l : Int) (t' : List Int), rollBack l ([] : List Int).reverse t' = ([], t') := fun _ _ => rfl
  rw [er]
  dsimp only
  generalize least (gapsRound t len) = m at *
  have hl : (t.take m).length = m := by rw [List.length_take]; omega
  refine ⟨rfl, by rw [headD_eq, headD_eq, getD_take (by omega)], ?_⟩
  rw [hl]
  have e1 := rt_mul (len := len) ht 0 1
  have e2 := rt_mul (len := ((gapsRound t len).take m).sum) hne 0 (t.length / m)
  rw [hl, Nat.zero_add, Nat.div_mul_cancel hmd, hr, hr] at e2
  rw [Nat.zero_add, Nat.one_mul] at e1
  rw [e2] at e1
  have e3 : len = ((t.length / m : Nat) : Int) * ((gapsRound t len).take m).sum := by omega
  generalize ((gapsRound t len).take m).sum = l at *
  obtain ⟨k, hk⟩ := hmd
  rw [hk, Nat.mul_div_cancel_left _ h1] at e3
  rw [e3, hk, Int.natCast_mul, Int.mul_assoc]
theorem gate_rated {f : Form} {t b p q : Nat} (R : Rated f t b) (hp : 1 ≤ p) (hpq : p ≤ q) (hq : q ≤ 12) (hb : b * q ≤ 5040) : ∃ g, gated f (evenBits p q) = some g ∧ checked g = some g ∧ Rated g (t * p) (b * q) := by
  obtain ⟨hc, h0⟩ := even_facts q hq p (by omega) hp hpq
  have hbl := even_length p q
  generalize evenBits p q = bits at hc h0 hbl
  have hn : 0 < f.round.length := List.length_pos_iff.mpr R.ne
  have rnd := R.wf.rnd R.ne
  have hMq := lcmN_right f.round.length bits.length
  have hMn := lcmN_left f.round.length bits.length
  have hM := lcmN_pos hn (show 0 < bits.length by omega)
  have hMle := lcmN_le (n := f.round.length) (q := bits.length)
  have hlenraw : (rawGate f bits).len = f.len * ((lcmN f.round.length bits.length / f.round.length : Nat) : Int) := rfl
  have hraw : (rawGate f bits).round = (nums bits 0 (lcmN f.round.length bits.length)).map (rt f.round f.len) := by
    unfold rawGate
    rw [R.front]
    rfl
  have hrf : (rawGate f bits).front = [] := by
    unfold rawGate
    rw [R.front]
    rfl
  generalize lcmN f.round.length bits.length = M at *
  have hdq : M / f.round.length ≤ q := by
    have : M / f.round.length ≤ f.round.length * bits.length / f.round.length := Nat.div_le_div_right hMle
    rw [Nat.mul_div_cancel_left _ hn, hbl] at this
    exact this
  have hw : (rawGate f bits).len ≤ 5040 := by
    rw [hlenraw]
    have h1 : f.len * ((M / f.round.length : Nat) : Int) ≤ (b : Int) * (q : Int) := Int.mul_le_mul R.le (Int.ofNat_le.mpr hdq) (Int.natCast_nonneg _) (Int.natCast_nonneg _)
    have h2 : (b : Int) * (q : Int) = ((b * q : Nat) : Int) := by rw [Int.natCast_mul]
    omega
  obtain ⟨k, hk⟩ := hMq
  have hk' : M = k * bits.length := by rw [hk, Nat.mul_comm]
  have hlen : (rawGate f bits).round.length = k * p := by
    rw [hraw, List.length_map, hk', nums_count, hc]
  have hkpos : 0 < k := by
    rcases Nat.eq_zero_or_pos k with z | z
    · rw [z, Nat.mul_zero] at hk; omega
    · exact z
  have hne : (rawGate f bits).round ≠ [] := fun z => by
    rw [z] at hlen
    have := Nat.mul_pos hkpos (show 0 < p by omega)
    rw [List.length_nil] at hlen
    omega
  have W := rawGate_wf R.wf R.ne (show 1 ≤ bits.length by omega) hw hne
  have hg : gated f bits = some (settled (rawGate f bits).front (rawGate f bits).round (rawGate f bits).len) := by
    rw [gated_raw R.ne, if_neg (by omega)]
  rw [hrf] at hg
  have W' : WF ⟨[], (rawGate f bits).round, (rawGate f bits).len⟩ := by
    rw [← hrf]
    exact W
  obtain ⟨s1, s2, s3⟩ := settled_rate hne W'
  obtain ⟨w1, w2, w3, _⟩ := settled_wf hne W'
  have hhead : (rawGate f bits).round.headD 0 = 0 := by
    rw [hraw]
    have : ∃ r, nums bits 0 M = 0 :: r := by
      unfold nums
      obtain ⟨M', rfl⟩ : ∃ M', M = M' + 1 := ⟨M - 1, by omega⟩
      rw [List.range_succ_eq_map, List.filter_cons]
      have hb0 : bitAt bits ((0 + 0 : Nat) : Int) = true := by
        have := bit_wrap (bits := bits) (k := 0) (j := 0) (by omega)
        rw [Nat.zero_mul] at this
        rw [this]
        exact h0
      rw [hb0, if_pos rfl]
      exact ⟨_, rfl⟩
    obtain ⟨r, hr⟩ := this
    rw [hr]
    show rt f.round f.len 0 = 0
    rw [rt_lt hn, ← headD_eq, R.head]
  refine ⟨_, hg, ?_, w1, s1, w2, by rw [s2]; exact hhead, ?_, ?_⟩
  · unfold checked
    rw [lateOf_round w2, s2, hhead]
    rfl
  · -- the rate
    generalize settled [] (rawGate f bits).round (rawGate f bits).len = g at *
    rw [hlen, hlenraw] at s3
    obtain ⟨j, hj⟩ := hMn
    rw [hj, Nat.mul_div_cancel_left _ hn] at s3
    have hr := R.rate
    have hjk : f.round.length * j = q * k := by rw [← hj, hk, hbl]
    have hlp := rnd.pos
    have hjpos : 0 < j := by
      rcases Nat.eq_zero_or_pos j with z | z
      · rw [z, Nat.mul_zero] at hj; omega
      · exact z
    have e0 : (f.round.length : Int) * (j : Int) = (q : Int) * (k : Int) := by exact_mod_cast hjk
    -- |g| len j = k p l ; n b = len t ; n j = q k
    have e1 : (g.round.length : Int) * (f.len * (j : Int)) = (k : Int) * (p : Int) * g.len := by
      rw [s3, Int.natCast_mul]
    have fin : (f.len * (k : Int)) * ((g.round.length : Int) * ((b : Int) * (q : Int))) = (f.len * (k : Int)) * (g.len * ((t : Int) * (p : Int))) := by
      have a1 : (f.len * (k : Int)) * ((g.round.length : Int) * ((b : Int) * (q : Int))) = (g.round.length : Int) * f.len * (b : Int) * ((q : Int) * (k : Int)) := by
        simp only [Int.mul_assoc, Int.mul_left_comm, Int.mul_comm]
      rw [a1, ← e0]
      have a2 : (g.round.length : Int) * f.len * (b : Int) * ((f.round.length : Int) * (j : Int)) = ((g.round.length : Int) * (f.len * (j : Int))) * ((f.round.length : Int) * (b : Int)) := by
        simp only [Int.mul_assoc, Int.mul_left_comm, Int.mul_comm]
      rw [a2, e1, hr]
      simp only [Int.mul_assoc, Int.mul_left_comm, Int.mul_comm]
    have hpos : f.len * (k : Int) ≠ 0 := by
      have : 0 < f.len * (k : Int) := Int.mul_pos hlp (by omega)
      omega
    have := Int.eq_of_mul_eq_mul_left hpos fin
    rw [Int.natCast_mul, Int.natCast_mul]
    exact this
  · have h2 : (b : Int) * (q : Int) = ((b * q : Nat) : Int) := by rw [Int.natCast_mul]
    have h1 : f.len * ((M / f.round.length : Nat) : Int) ≤ (b : Int) * (q : Int) := Int.mul_le_mul R.le (Int.ofNat_le.mpr hdq) (Int.natCast_nonneg _) (Int.natCast_nonneg _)
    rw [← hlenraw] at h1
    omega
theorem source_rated : Rated ⟨[], [0], 1⟩ 1 1 := ⟨⟨by simp, by simp, fun z => (nomatch z), fun _ => ⟨by simp, by show (0 : Int) < 1; decide, by show (0 : Int) < 0 + 1; decide⟩, by show (1 : Int) ≤ 5040; decide⟩, rfl, by simp, rfl, by decide, by show (1 : Int) ≤ 1; decide⟩
theorem rated_rate {f : Form} {t b : Nat} (R : Rated f t b) (ht : 0 < t) (hb : 0 < b) : (f.round.length : Int) / gcdZ f.round.length f.len = (t : Int) / gcdZ t b ∧ f.len / gcdZ f.round.length f.len = (b : Int) / gcdZ t b := by
  have hn : 0 < f.round.length := List.length_pos_iff.mpr R.ne
  have hp := (R.wf.rnd R.ne).pos
  obtain ⟨l, hl⟩ := Int.eq_ofNat_of_zero_le (show 0 ≤ f.len by omega)
  have hr := R.rate
  rw [hl] at hr hp ⊢
  have hr' : f.round.length * b = l * t := by exact_mod_cast hr
  obtain ⟨a, c⟩ := same_rate hn (by omega) ht hb hr'
  rw [gcdZ_nat, gcdZ_nat, ← Int.natCast_ediv, ← Int.natCast_ediv, ← Int.natCast_ediv, ← Int.natCast_ediv, a, c]
  exact ⟨rfl, rfl⟩
end TD
namespace TD
/-! ### gates of a stock, one around another -/
def ratioAt (st : List (Int × Int)) (n : Int) : Int × Int := st.getD n.toNat (0, 0)
def topOf (st : List (Int × Int)) (ns : List Int) : Int := ns.foldl (fun a n => a * (ratioAt st n).1) 1
def botOf (st : List (Int × Int)) (ns : List Int) : Int := ns.foldl (fun a n => a * (ratioAt st n).2) 1
def gatesOf (st : List (Int × Int)) (ns : List Int) : Beat := ns.foldl (fun b n => .gate (evenBits (ratioAt st n).1.toNat (ratioAt st n).2.toNat) b) .source
theorem gates_rated {st : List (Int × Int)} {ns : List Int} (hst : ∀ n ∈ ns, 1 ≤ (ratioAt st n).1 ∧ 2 * (ratioAt st n).1 ≤ (ratioAt st n).2 ∧ (ratioAt st n).2 ≤ 12) :
    ∀ i, i ≤ ns.length → 1 ≤ topOf st (ns.take i) ∧ 1 ≤ botOf st (ns.take i) ∧ (botOf st (ns.take i) ≤ 5000 → ∃ f, fm (gatesOf st (ns.take i)) = some f ∧ Rated f (topOf st (ns.take i)).toNat (botOf st (ns.take i)).toNat) := by
  intro i
  induction i with
  | zero =>
    intro _
    refine ⟨by show (1 : Int) ≤ 1; decide, by show (1 : Int) ≤ 1; decide, fun _ => ⟨⟨[], [0], 1⟩, rfl, source_rated⟩⟩
  | succ i ih =>
    intro hi
    obtain ⟨h1, h2, h3⟩ := ih (by omega)
    have hn : ns[i]? = some ns[i] := List.getElem?_eq_getElem (by omega)
    obtain ⟨r1, r2, r3⟩ := hst ns[i] (List.getElem_mem _)
    have e : ns.take (i + 1) = ns.take i ++ [ns[i]] := by rw [List.take_add_one, hn]; rfl
    have et : topOf st (ns.take (i + 1)) = topOf st (ns.take i) * (ratioAt st ns[i]).1 := by
      unfold topOf
      rw [e, List.foldl_append]
      rfl
    have eb : botOf st (ns.take (i + 1)) = botOf st (ns.take i) * (ratioAt st ns[i]).2 := by
      unfold botOf
      rw [e, List.foldl_append]
      rfl
    have eg : gatesOf st (ns.take (i + 1)) = .gate (evenBits (ratioAt st ns[i]).1.toNat (ratioAt st ns[i]).2.toNat) (gatesOf st (ns.take i)) := by
      unfold gatesOf
      rw [e, List.foldl_append]
      rfl
    rw [et, eb, eg]
    generalize ratioAt st ns[i] = r at r1 r2 r3
    obtain ⟨p, q⟩ := r
    dsimp only at *
    obtain ⟨p', rfl⟩ := Int.eq_ofNat_of_zero_le (show 0 ≤ p by omega)
    obtain ⟨q', rfl⟩ := Int.eq_ofNat_of_zero_le (show 0 ≤ q by omega)
    obtain ⟨t', ht⟩ := Int.eq_ofNat_of_zero_le (show 0 ≤ topOf st (ns.take i) by omega)
    obtain ⟨b', hb⟩ := Int.eq_ofNat_of_zero_le (show 0 ≤ botOf st (ns.take i) by omega)
    rw [ht] at h1 h3 ⊢
    rw [hb] at h2 h3 ⊢
    have m1 : 0 < t' * p' := Nat.mul_pos (by omega) (by omega)
    have m2 : 0 < b' * q' := Nat.mul_pos (by omega) (by omega)
    refine ⟨?_, ?_, fun hle => ?_⟩
    · rw [← Int.natCast_mul]; omega
    · rw [← Int.natCast_mul]; omega
    · rw [← Int.natCast_mul] at hle
      have hble : b' ≤ b' * q' := Nat.le_mul_of_pos_right _ (by omega)
      obtain ⟨f, hf, R⟩ := h3 (by omega)
      rw [Int.toNat_natCast, Int.toNat_natCast] at R
      obtain ⟨g, g1, g2, g3⟩ := gate_rated (p := p') (q := q') R (by omega) (by omega) (by omega) (by omega)
      refine ⟨g, ?_, ?_⟩
      · rw [Int.toNat_natCast, Int.toNat_natCast]
        show (fm (gatesOf st (ns.take i))).bind _ = _
        rw [hf]
        show (gated f _).bind checked = _
        rw [g1]
        exact g2
      · rw [← Int.natCast_mul, ← Int.natCast_mul, Int.toNat_natCast, Int.toNat_natCast]
        exact g3
end TD

/-! How far a round is from even: its leads. -/
namespace TD
/-- how far the k-th tick leads -/
def leadAt (t : List Int) (len : Int) (k : Nat) : Int := (k : Int) * len - (t.length : Int) * (t.getD k 0 - t.getD 0 0)
def leads (t : List Int) (len : Int) : List Int := (List.range t.length).map (leadAt t len)
/-- so many different ints stand between two -/
theorem asc_le_len : ∀ {l : List Int} {lo hi : Int}, l.Pairwise (· < ·) → (∀ x ∈ l, lo ≤ x ∧ x ≤ hi) → l ≠ [] → (l.length : Int) ≤ hi - lo + 1 := by
  intro l lo hi h hb hne
  cases l with
  | nil => exact absurd rfl hne
  | cons x r =>
    have hx := hb x List.mem_cons_self
    have := asc_len (lo := lo) (hi := hi + 1) h (fun y hy => ⟨(hb y hy).1, by have := (hb y hy).2; omega⟩) (by omega)
    omega
theorem nodup_len {l : List Int} {lo hi : Int} (h : l.Nodup) (hb : ∀ x ∈ l, lo ≤ x ∧ x ≤ hi) (hne : l ≠ []) : (l.length : Int) ≤ hi - lo + 1 := by
  have hp := List.mergeSort_perm l (fun a b => decide (a ≤ b))
  have hs : (l.mergeSort (fun a b => decide (a ≤ b))).Pairwise (fun a b => decide (a ≤ b) = true) := List.pairwise_mergeSort (fun a b c h1 h2 => by simp at *; omega) (fun a b => by simp; omega) l
  have hn : (l.mergeSort (fun a b => decide (a ≤ b))).Nodup := hp.nodup_iff.mpr h
  have hlt : (l.mergeSort (fun a b => decide (a ≤ b))).Pairwise (· < ·) := by
    have := List.Pairwise.and hs hn
    exact this.imp fun {a b} ⟨h1, h2⟩ => by
      have h1 := of_decide_eq_true h1
      omega
  rw [← hp.length_eq]
  refine asc_le_len hlt (fun x hx => hb x (hp.mem_iff.mp hx)) fun z => hne ?_
  have := hp.length_eq
  rw [z] at this
  exact List.length_eq_zero_iff.mp this.symm
/-- at least so far apart: m = g a, len = g b, a and b without a common divisor -/
theorem lead_low {t : List Int} {len : Int} {g a b : Nat} (hm : t.length = g * a) (hl : len = ((g * b : Nat) : Int)) (hg : 0 < g) (ha : 0 < a) (co : Nat.Coprime a b) {hi lo : Int} (hb : ∀ x ∈ leads t len, lo ≤ x ∧ x ≤ hi) : (g : Int) * ((a : Int) - 1) ≤ hi - lo := by
  -- the first a leads over g
  let q : Nat → Int := fun k => (k : Int) * (b : Int) - (a : Int) * (t.getD k 0 - t.getD 0 0)
  have hq : ∀ k, leadAt t len k = (g : Int) * q k := fun k => by
    show (k : Int) * len - (t.length : Int) * _ = _
    show _ = (g : Int) * ((k : Int) * (b : Int) - (a : Int) * (t.getD k 0 - t.getD 0 0))
    rw [hm, hl, Int.natCast_mul, Int.natCast_mul]
    generalize t.getD k 0 - t.getD 0 0 = y
    rw [Int.mul_sub, Int.mul_left_comm, Int.mul_assoc]
  have hale : a ≤ t.length := by rw [hm]; exact Nat.le_mul_of_pos_left _ hg
  have hmem : ∀ k, k < a → lo ≤ (g : Int) * q k ∧ (g : Int) * q k ≤ hi := fun k hk => by
    rw [← hq]
    exact hb _ (List.mem_map.mpr ⟨k, List.mem_range.mpr (by omega), rfl⟩)
  have inj : ∀ i, i < a → ∀ j, j < a → q i = q j → i = j := fun i hi j hj e => by
    have e : (i : Int) * (b : Int) - (a : Int) * (t.getD i 0 - t.getD 0 0) = (j : Int) * (b : Int) - (a : Int) * (t.getD j 0 - t.getD 0 0) := e
    generalize t.getD i 0 - t.getD 0 0 = u at e
    generalize t.getD j 0 - t.getD 0 0 = v at e
    have hd : (a : Int) ∣ ((i : Int) - (j : Int)) * (b : Int) := ⟨u - v, by rw [Int.sub_mul, Int.mul_sub]; omega⟩
    have hd2 : a ∣ ((i : Int) - (j : Int)).natAbs * b := by
      have := Int.natAbs_dvd_natAbs.mpr hd
      rwa [Int.natAbs_mul, Int.natAbs_natCast, Int.natAbs_natCast] at this
    have hd3 : a ∣ ((i : Int) - (j : Int)).natAbs := co.dvd_of_dvd_mul_right hd2
    rcases Nat.eq_zero_or_pos ((i : Int) - (j : Int)).natAbs with z | z
    · omega
    · have := Nat.le_of_dvd z hd3
      omega
  have hnd : ((List.range a).map q).Nodup := by
    refine List.pairwise_map.mpr ?_
    refine (List.pairwise_lt_range (n := a)).imp_of_mem fun {i j} hi hj hij e => ?_
    have := inj i (List.mem_range.mp hi) j (List.mem_range.mp hj) e
    omega
  -- the least and the greatest of them
  have key : ∃ lo' hi' : Int, (∀ x ∈ (List.range a).map q, lo' ≤ x ∧ x ≤ hi') ∧ (g : Int) * (hi' - lo') ≤ hi - lo := by
    have : ∀ n, 0 < n → n ≤ a → ∃ i j, i < a ∧ j < a ∧ ∀ k, k < n → q i ≤ q k ∧ q k ≤ q j := by
      intro n
      induction n with
      | zero => intro h; omega
      | succ n ih =>
        intro _ hn
        by_cases h0 : n = 0
        · refine ⟨0, 0, ha, ha, fun k hk => ?_⟩
          have : k = 0 := by omega
          subst this
          omega
        · obtain ⟨i, j, hi', hj', h⟩ := ih (by omega) (by omega)
          refine ⟨if q n < q i then n else i, if q j < q n then n else j, by split <;> omega, by split <;> omega, fun k hk => ?_⟩
          by_cases hkn : k = n
          · subst hkn
            constructor
            · split <;> omega
            · split <;> omega
          · obtain ⟨h1, h2⟩ := h k (by omega)
            constructor
            · split <;> omega
            · split <;> omega
    obtain ⟨i, j, hi', hj', h⟩ := this a ha (Nat.le_refl _)
    refine ⟨q i, q j, fun x hx => ?_, ?_⟩
    · obtain ⟨k, hk, rfl⟩ := List.mem_map.mp hx
      exact h k (List.mem_range.mp hk)
    · have h1 := (hmem i hi').1
      have h2 := (hmem j hj').2
      rw [Int.mul_sub]
      omega
  obtain ⟨lo', hi', h1, h2⟩ := key
  have hlen := nodup_len hnd h1 (by
    intro z
    have := congrArg List.length z
    rw [List.length_map, List.length_range] at this
    simp at this
    omega)
  rw [List.length_map, List.length_range] at hlen
  refine Int.le_trans (Int.mul_le_mul_of_nonneg_left (show (a : Int) - 1 ≤ hi' - lo' by omega) (Int.natCast_nonneg g)) h2
/-- an even round: its leads are at most so far apart -/
theorem lead_even {t : List Int} {len : Int} {g a b : Nat} (hm : t.length = g * a) (hl : len = ((g * b : Nat) : Int)) (ha : 0 < a) (he : ∀ k, k < t.length → t.getD k 0 - t.getD 0 0 = ((k * b / a : Nat) : Int)) : ∀ x ∈ leads t len, 0 ≤ x ∧ x ≤ (g : Int) * ((a : Int) - 1) := by
  intro x hx
  obtain ⟨k, hk, rfl⟩ := List.mem_map.mp hx
  have hk := List.mem_range.mp hk
  have e : leadAt t len k = (g : Int) * ((k * b % a : Nat) : Int) := by
    show (k : Int) * len - (t.length : Int) * _ = _
    rw [he k hk, hm, hl]
    have := Nat.div_add_mod (k * b) a
    have h2 : ((k * b % a : Nat) : Int) = (k : Int) * (b : Int) - (a : Int) * ((k * b / a : Nat) : Int) := by
      have h3 : ((a * (k * b / a) + k * b % a : Nat) : Int) = ((k * b : Nat) : Int) := by rw [this]
      rw [Int.natCast_add, Int.natCast_mul, Int.natCast_mul] at h3
      omega
    rw [h2, Int.natCast_mul, Int.natCast_mul, Int.mul_sub, Int.mul_left_comm, Int.mul_assoc]
  rw [e]
  have hlt : k * b % a < a := Nat.mod_lt _ ha
  constructor
  · exact Int.mul_nonneg (Int.natCast_nonneg _) (Int.natCast_nonneg _)
  · exact Int.mul_le_mul_of_nonneg_left (by omega) (Int.natCast_nonneg g)
end TD

/-! Gates of the source: how far from even. -/
namespace TD
theorem even_nums : ∀ q, q ≤ 12 → ∀ p, p ≤ 12 → 1 ≤ p → p ≤ q → nums (evenBits p q) 0 q = (List.range p).map fun k => k * q / p := by decide +kernel
/-- the form of a gate of the source -/
structure Gated1 (bits : List Bool) (f : Form) : Prop where
  fm : fm (.gate bits .source) = some f
  wf : WF f
  ne : f.round ≠ []
  rate : f.round.length * bits.length = f.len.toNat * bits.count true
  len : f.len = ((f.len.toNat : Nat) : Int)
  le : f.len ≤ (bits.length : Int)
  rt : ∀ i, rt f.round f.len i = rt ((nums bits 0 bits.length).map fun (i : Nat) => (i : Int)) bits.length i
theorem gate_source {bits : List Bool} (h1 : 1 ≤ bits.length) (h2 : bits.length ≤ 12) (hc : 1 ≤ bits.count true) : ∃ f, Gated1 bits f := by
  have hs : fm .source = some ⟨[], [0], 1⟩ := rfl
  have hl : lcmN 1 bits.length = bits.length := by
    unfold lcmN
    rw [Nat.gcd_one_left, Nat.div_one, Nat.one_mul]
  have hr0 : ∀ i, rt [0] 1 i = (i : Int) := fun i => by
    unfold rt
    rw [List.length_singleton, Nat.mod_one, Nat.div_one]
    show (0 : Int) + (i : Int) * 1 = (i : Int)
    omega
  have hraw : rawGate ⟨[], [0], 1⟩ bits = ⟨[], (nums bits 0 bits.length).map (fun (i : Nat) => (i : Int)), bits.length⟩ := by
    unfold rawGate
    show (⟨[], (nums bits 0 (lcmN 1 bits.length)).map (rt [0] 1), 1 * ((lcmN 1 bits.length / 1 : Nat) : Int)⟩ : Form) = _
    rw [hl, Nat.div_one, Int.one_mul, show rt [0] 1 = fun (i : Nat) => (i : Int) from funext hr0]
  have hcount : (nums bits 0 bits.length).length = bits.count true := by
    have := nums_count bits 1
    rw [Nat.one_mul, Nat.one_mul] at this
    exact this
  have hne : (rawGate ⟨[], [0], 1⟩ bits).round ≠ [] := fun z => by
    rw [hraw] at z
    have := congrArg List.length z
    rw [List.length_map, hcount] at this
    simp at this
    omega
  have W := rawGate_wf (bits := bits) source_rated.wf (by simp) h1 (by rw [hraw]; show (bits.length : Int) ≤ 5040; omega) hne
  rw [hraw] at W hne
  obtain ⟨w1, w2, w3, w4⟩ := settled_wf hne W
  obtain ⟨s1, s2, s3⟩ := settled_rate hne W
  have hg : gated ⟨[], [0], 1⟩ bits = some (settled [] ((nums bits 0 bits.length).map (fun (i : Nat) => (i : Int))) bits.length) := by
    rw [gated_raw (by simp), hraw, if_neg (by show ¬ (bits.length : Int) > 5040; omega)]
  have hpos : 0 < (settled [] ((nums bits 0 bits.length).map (fun (i : Nat) => (i : Int))) bits.length).len := (w1.rnd w2).pos
  refine ⟨settled [] ((nums bits 0 bits.length).map (fun (i : Nat) => (i : Int))) bits.length, ?_, w1, w2, ?_, by omega, w3, ?_⟩
  · show (fm .source).bind _ = _
    rw [hs]
    show (gated _ bits).bind checked = _
    rw [hg]
    show checked _ = _
    unfold checked
    rw [if_neg]
    rw [lateOf_round w2, s2]
    have hm := headD_mem hne
    obtain ⟨i, hi, e⟩ := List.mem_map.mp hm
    have := nums_lt hi
    rw [← e]
    omega
  · have e : ((settled [] ((nums bits 0 bits.length).map (fun (i : Nat) => (i : Int))) bits.length).round.length : Int) * (bits.length : Int) = (bits.count true : Int) * (settled [] ((nums bits 0 bits.length).map (fun (i : Nat) => (i : Int))) bits.length).len := by
      rw [← hcount]
      rw [List.length_map] at s3
      exact s3
    obtain ⟨l, hl⟩ := Int.eq_ofNat_of_zero_le (show 0 ≤ (settled [] ((nums bits 0 bits.length).map (fun (i : Nat) => (i : Int))) bits.length).len by omega)
    rw [hl] at e ⊢
    rw [Int.toNat_natCast, Nat.mul_comm l]
    exact_mod_cast e
  · intro i
    have := w4 i
    unfold tk at this
    dsimp only at this
    rw [s1, if_neg w2, if_neg hne] at this
    simpa using this
/-- what is reduced comes to the same -/
theorem near_iff {top bottom a : Nat} (hb : 0 < bottom) (ha : 0 < a) (co : Nat.gcd top bottom = 1) : top * a = (a - 1) * bottom ↔ top = a - 1 ∧ bottom = a := by
  constructor
  · intro h
    by_cases h1 : a = 1
    · subst h1
      rw [Nat.mul_one, Nat.sub_self, Nat.zero_mul] at h
      subst h
      rw [Nat.gcd_zero_left] at co
      exact ⟨rfl, co⟩
    · have ht : 0 < top := by
        rcases Nat.eq_zero_or_pos top with z | z
        · rw [z, Nat.zero_mul] at h
          have := Nat.mul_pos (show 0 < a - 1 by omega) hb
          omega
        · exact z
      have hco2 : Nat.gcd (a - 1) a = 1 := by
        obtain ⟨c, rfl⟩ : ∃ c, a = c + 1 := ⟨a - 1, by omega⟩
        rw [Nat.add_sub_cancel]
        simp
      obtain ⟨x, y⟩ := same_rate (n := top) (l := bottom) (t := a - 1) (b := a) ht hb (by omega) ha (by rw [h, Nat.mul_comm])
      rw [co, hco2, Nat.div_one, Nat.div_one] at x y
      exact ⟨x, y⟩
  · rintro ⟨rfl, rfl⟩
    rfl
end TD

namespace TD
open PySem PySem.Spec PyProof.Rows L2
def topS (i : Nat) : Stmt := PySem.Challenge.pw_tickdivide_k11_whole_none_is_nearer.main.body.getD i (.Pass ⟨0, 0, 0, 0⟩)
abbrev s_is_whole : Stmt := topS 12
abbrev s_are_signs : Stmt := topS 13
abbrev s_is_every : Stmt := topS 14
abbrev s_inner_of : Stmt := topS 15
abbrev s_is_beat : Stmt := topS 16
abbrev s_need_beat : Stmt := topS 17
abbrev s_divisor : Stmt := topS 20
abbrev s_multiple : Stmt := topS 21
abbrev s_need_short : Stmt := topS 22
abbrev s_gaps_round : Stmt := topS 23
abbrev s_settled : Stmt := topS 24
abbrev s_tick_at : Stmt := topS 25
abbrev s_count_ahead : Stmt := topS 26
abbrev s_all_ahead : Stmt := topS 27
abbrev s_start_of : Stmt := topS 28
abbrev s_gated : Stmt := topS 29
abbrev s_later : Stmt := topS 30
abbrev s_of_two : Stmt := topS 31
abbrev s_led_form : Stmt := topS 32
abbrev s_made_of : Stmt := topS 33
abbrev s_form_of : Stmt := topS 34
abbrev s_form : Stmt := topS 35
abbrev s_reduced : Stmt := topS 37
abbrev s_rate_of : Stmt := topS 38
abbrev s_signs : Stmt := topS 40
abbrev s_need_endless : Stmt := topS 41
abbrev s_endless : Stmt := topS 42
abbrev s_far_of : Stmt := topS 43
abbrev s_far : Stmt := topS 44
abbrev s_is_even : Stmt := topS 45
abbrev s__law_mix : Stmt := topS 47
abbrev s__law_next : Stmt := topS 48
abbrev s__law_alike : Stmt := topS 49
abbrev s__law_common : Stmt := topS 50
abbrev s__law_reduced : Stmt := topS 51
abbrev s__law_all : Stmt := topS 52
abbrev s_law : Stmt := topS 53
end TD

namespace TD
open PySem PySem.Spec PyProof.Rows L2
section
variable {P : Program} {w : World} {K : PySem.W.Frag} {mg : Str → Option Value} {base : Heap}
local macro_rules | `(tactic| walk_at "ex") => `(tactic| first | assumption | exact Ex.refl _ | (refine Ex.trans ?_ (by assumption : Ex _ _); walk_at "ex"))
local macro_rules | `(tactic| walk_at "fresh") => `(tactic| first | assumption | (refine Ex.back (by assumption : Ex _ _) ?_; walk_at "fresh"))
local macro_rules | `(tactic| walk_at "cond") => `(tactic| ((show (_ : Prop)); (try dsimp only [CMul, CDiv, CPow]); (try simp only [List.length_map]); first | omega | assumption | decide | (simp only [List.length_cons, List.length_nil]; decide) | (split <;> omega) | exact ⟨by omega, by omega⟩ | exact .inr ⟨by omega, by omega⟩ | exact .inl ⟨by omega, by omega⟩ | exact .inr ⟨by decide, by decide⟩ | exact ⟨by decide, by decide, by decide⟩))
local macro_rules | `(tactic| walk_at "seq") => `(tactic| first | assumption | exact SqL.of (by assumption) | exact SqT.of (by assumption) | exact SqL.of (xs := []) (by assumption) | exact FormNew.at (by assumption) | exact sq_upd | exact upd_lst | (refine Ex.sqL (by assumption : Ex _ _) ?_; walk_at "seq") | (refine Ex.sqT (by assumption : Ex _ _) ?_; walk_at "seq") | (refine (by assumption : Ex _ _) _ _ ?_; walk_at "seq") | (refine FormAt.ext ?_ (by assumption : Ex _ _); walk_at "seq") | (refine Rng.ext ?_ (by assumption : Ex _ _); walk_at "seq"))
local macro_rules | `(tactic| walk_at "dp") => `(tactic| first | assumption | exact Dp.int _ | exact Dp.str _ | exact Dp.bl _ | exact Dp.non | (refine Ex.dp (by assumption : Ex _ _) ?_; walk_at "dp"))
local macro_rules | `(tactic| walk_at "go1") => `(tactic| first
  | (refine ⟨_, _, ?d, rfl, ?hd, rfl, ?main⟩; (case hd => walk_at "dp"))
  | refine ⟨_, rfl, ?_⟩
  | refine ⟨_, _, rfl, rfl, (by walk_at "cond"), ?_⟩
  | (refine ⟨_, ?xs, _, ?v, rfl, rfl, ?hS, ?hA, ?main⟩; (case hS => walk_at "seq"); (case hA => rfl))
  | (refine ⟨_, ?xs, rfl, .inl ?hS, ?main⟩; (case hS => walk_at "seq"))
  | (refine ⟨_, ?xs, rfl, .inr ?hS, ?main⟩; (case hS => walk_at "seq"))
  | (refine ⟨_, ?xs, rfl, ?hS, ?hL, ?main⟩; (case hS => walk_at "seq"); (case hL => rfl))
  | (refine ⟨_, ?xs, rfl, ?hS, ?main⟩; (case hS => walk_at "seq"))
  | (refine ⟨(?hE : ∃ xs, SqL _ _ _ xs), ?main⟩; (case hE => (refine ⟨?xs, ?hS⟩; (case hS => walk_at "seq"))))
  | refine ⟨_, _, rfl, rfl, ?_⟩
  | refine ⟨_, _, rfl, ?_⟩
  | refine ⟨rfl, ?_⟩
  | refine ⟨by walk_at "cond", ?_⟩
  | (show nE _ _; refine nE_intro fun _ _ => ?_))
local macro_rules | `(tactic| walk_at "go") => `(tactic| repeat walk_at "go1")

/-! ### the greatest common divisor -/
theorem sc_divisor : FnScope ["one", "other"] ["one", "other"] (defScope s_divisor) := ⟨rfl, rfl, rfl, by decide +kernel, rfl, by decide +kernel, by decide +kernel⟩
def spDivisor : Sp := fun vs H Q _ => ∃ x y : Int, vs = [.int x, .int y] ∧ 0 ≤ x ∧ 0 ≤ y ∧ Q (.int (gcdZ x y)) H
theorem ok_divisor {f : Addr} {fd : FuncData} (F : Fun K "divisor" "divisor" s_divisor f fd) : FnOk P w K mg base CX0 1 f fd ["one", "other"] spDivisor := by
  have nd := sc_divisor.nd
  refine F.ok sc_divisor (fun vs H Q E h => ?_) (fun cdv A outer s H vs Q E hr h => ?_)
  · obtain ⟨x, y, rfl, _⟩ := h
    rfl
  · obtain ⟨x, y, rfl, hx, hy, q⟩ := h
    refine ⟨_, 
    (pss_cons (ps_while PassesOwn.never (pt_cmpR op_gt (pv 1) pe_int (nomark _)) (pss_one (ps_par (i := 0) (j := 1) rfl nd rfl rfl (by decide) rfl rfl (pa_cons (pv 1) (pa_cons (pe_op op_mod (pv 0) (pv 1)) pa_nil)) (by rfl))))
    (pss_one (ps_ret (pv 0)))), ?_⟩
    refine ⟨fun m σ H' => H' = H ∧ ∃ a b : Int, σ = [some (.int a), some (.int b)] ∧ 0 ≤ a ∧ 0 ≤ b ∧ gcdZ a b = gcdZ x y ∧ m = b.toNat, ⟨_, rfl, x, y, rfl, hx, hy, rfl, rfl⟩, ?_⟩
    rintro m σ H' ⟨rfl, a, b, rfl, ha, hb, hg, rfl⟩
    refine ⟨_, rfl, _, _, rfl, rfl, _, rfl, ite2 (fun c => ?_) (fun c => ?_)⟩
    · have c : 0 < b := of_decide_eq_true c
      refine ⟨fun σ2 H2 => H2 = H' ∧ σ2 = [some (.int b), some (.int (a % b))], ?_, ?_⟩
      · rintro σ2 H2 ⟨rfl, rfl⟩
        refine ⟨_, ?_, rfl, b, a % b, rfl, hb, Int.emod_nonneg _ (by omega), ?_, rfl⟩
        · have := Int.emod_lt_of_pos a c
          have := Int.emod_nonneg a (show b ≠ 0 by omega)
          omega
        · rw [← hg]
          exact gcdZ_mod ha hb
      · exact ⟨_, rfl, _, rfl, _, rfl, _, _, rfl, rfl, c, _, _, rfl, rfl, rfl⟩
    · have c : ¬ 0 < b := fun z => c (decide_eq_true z)
      have e : b = 0 := by omega
      subst e
      refine ⟨_, rfl, ?_⟩
      have e : gcdZ x y = a := by
        rw [← hg]
        unfold gcdZ
        rw [Int.gcd_zero_right]
        omega
      rw [e] at q
      exact q


/-! ### what is drawn from -/
theorem sc__law_mix : FnScope ["_law_script", "_law_seed", "_law_mixed", "_law_cell"] ["_law_script", "_law_seed"] (defScope s__law_mix) := ⟨rfl, rfl, rfl, by decide +kernel, rfl, by decide +kernel, by decide +kernel⟩
theorem ok_mix0 {f : Addr} {fd : FuncData} (F : Fun K "_law_mix" "_law_mix" s__law_mix f fd) (B : Blt mg) : FnOk P w K mg base CX0 1 f fd ["_law_script", "_law_seed"] (spMix0 K) := by
  have nd := sc__law_mix.nd
  refine F.ok sc__law_mix (fun vs H Q E h => ?_) (fun cdv A outer s H vs Q E hr h => ?_)
  · obtain ⟨a, ns, seed, rfl, _⟩ := h
    rfl
  · obtain ⟨a, ns, seed, rfl, hS, hl, q⟩ := h
    refine ⟨_, 
    (pss_cons (ps_set (i := 2) nd rfl (Or.inl rfl) (pv 1))
    (pss_cons (ps_for PassesOwn.never rfl (pi_list (pv 0)) (pg_name (i := 3) nd rfl (Or.inl rfl)) (pss_one (ps_set (i := 2) nd rfl (Or.inl rfl) (pe_op op_mod (pe_op op_add (pe_op op_add (pe_op op_mul (pv 2) pe_int) (pe_op op_mod (pv 3) pe_int)) pe_int) pe_int))))
    (pss_one (ps_ret (pe_lstN (pa_cons (pv 2) (pa_cons (pe_callTy (listK (K := K) rfl) (by rfl) B.list bt_list (pa_cons (pv 0) pa_nil)) (pa_cons pe_int pa_nil)))))))), ?_⟩
    try dsimp only [cxOf, Cx.nox, Cx.wish]
    refine ⟨_, rfl, .ref a, rfl, a, rfl, ⟨_, hS⟩, for_list (K := K) (a := a) (xs := ns.map V.int) (fun i σ H2 => H2 = H ∧ ∃ (m : Int) (y : Option V), σ = [some (.ref a), some (.int seed), some (.int m), y])
      ⟨rfl, seed, none, rfl⟩ (fun i σ H2 _ ⟨e, _⟩ => by subst e; exact hS) ?_ ?_⟩
    · rintro i y σ H2 hi ⟨rfl, m, z, rfl⟩
      obtain ⟨n, rfl⟩ : ∃ n, y = V.int n := by
        obtain ⟨n, _, e⟩ := List.mem_map.mp (List.mem_of_getElem? hi)
        exact ⟨n, e.symm⟩
      walk_at "go"
      exact ⟨_, _, rfl⟩
    · rintro σ H2 ⟨rfl, m, z, rfl⟩
      walk_at "go"
      refine nL_intro fun l H1 nl e1 hl => ?_
      walk_at "go"
      refine nL_intro fun h H3 nh e3 hh => ?_
      have ne : l ≠ h := ne_of_none hl nh
      exact q h l m _ (e1.trans e3) (e1.back nh) nl (Ne.symm ne) hh (e3 _ _ hl)
theorem sc__law_next : FnScope ["_law_h", "_law_many", "_law_at", "_law_cell"] ["_law_h", "_law_many"] (defScope s__law_next) := ⟨rfl, rfl, rfl, by decide +kernel, rfl, by decide +kernel, by decide +kernel⟩
theorem ok_next0 {f : Addr} {fd : FuncData} (F : Fun K "_law_next" "_law_next" s__law_next f fd) (B : Blt mg) : FnOk P w K mg base CX0 1 f fd ["_law_h", "_law_many"] spNext0 := by
  have nd := sc__law_next.nd
  refine F.ok sc__law_next (fun vs H Q E h => ?_) (fun cdv A outer s H vs Q E hr h => ?_)
  · obtain ⟨h, l, m, p, many, cs, rfl, _⟩ := h
    rfl
  · obtain ⟨h, l, m, p, many, cs, rfl, hne, e1, e2, hc, p1, p2, q⟩ := h
    refine ⟨_, 
    (pss_cons (ps_set (i := 2) nd rfl (Or.inl rfl) (pe_op op_mod (pe_ix (ixl (K := K) rfl) (pv 0) pe_int (fun _ _ => rfl)) (pe_callB (call_max2 rfl) (by rfl) B.max bt_max (pa_cons pe_int (pa_cons (pe_callB (lenK (K := K) rfl) (by rfl) B.len PySem.boot_len (pa_cons (pe_ix (ixl (K := K) rfl) (pv 0) pe_int (fun _ _ => rfl)) pa_nil)) pa_nil)))))
    (pss_cons (ps_set (i := 3) nd rfl (Or.inl rfl) (pe_ifExp (pt_cmp (neNil (K := K) rfl hr.units (pe_ix (ixl (K := K) rfl) (pv 0) pe_int (fun _ _ => rfl)))) (pe_ix (ixl (K := K) rfl) (pe_ix (ixl (K := K) rfl) (pv 0) pe_int (fun _ _ => rfl)) (pv 2) (fun _ _ => rfl)) pe_int))
    (pss_cons (ps_if (pt_cmpR op_ge (pv 3) (pe_op op_pow pe_int pe_int) (nomark _)) (pss_cons (ps_asg (pe_op op_fdiv (pv 3) (pv 1)) (pg_sub (pe_ix (ixl (K := K) rfl) (pv 0) pe_int (fun _ _ => rfl)) (pv 2) set_list))
    (pss_one (ps_ret (pe_op op_mod (pv 3) (pv 1))))) pss_nil)
    (pss_cons (ps_asg (pe_op op_mod (pe_op op_add (pe_op op_add (pe_op op_mul (pe_ix (ixl (K := K) rfl) (pv 0) pe_int (fun _ _ => rfl)) pe_int) (pe_op op_mul (pv 3) pe_int)) pe_int) pe_int) (pg_sub (pv 0) pe_int set_list))
    (pss_cons (ps_asg (pe_op op_add (pe_ix (ixl (K := K) rfl) (pv 0) pe_int (fun _ _ => rfl)) pe_int) (pg_sub (pv 0) pe_int set_list))
    (pss_one (ps_ret (pe_op op_mod (pe_op op_fdiv (pe_ix (ixl (K := K) rfl) (pv 0) pe_int (fun _ _ => rfl)) pe_int) (pv 1))))))))), ?_⟩
    try dsimp only [cxOf, Cx.nox, Cx.wish]
    have s1 : SqL K H h [.int m, .ref l, .int p] := .of e1
    have s2 : SqL K H l (cs.map V.int) := .of e2
    -- the place
    walk_at "go"
    rename_i H1 x1
    have hl : ((cs.map V.int).length : Int) = (cs.length : Int) := by rw [List.length_map]
    have a0 : H1 h = some (h3 m l p) := x1 _ _ e1
    have b0 : H1 l = some (hL cs) := x1 _ _ e2
    have s3 : SqL K H1 h [.int m, .ref l, .int p] := .of a0
    have s4 : SqL K H1 l (cs.map V.int) := .of b0
    have st0 : ∀ b o, H b = some o → b ≠ h → b ≠ l → H1 b = some o := fun b o hb _ _ => x1 b o hb
    rw [hl]
    -- the rest, once the cell is known
    have rest : ∀ (j : Nat) (c : Int), (1000000000000000000 ≤ c → cs[j]? = some c) → ∀ at_ : Int, at_ = (j : Int) →
        (tSeq (tIfS (tTest (tOp (rI0 fun i j => V.bl (decide (j ≤ i))) (tVar 3) (tOp (rI CPow fun i j => V.int (i ^ j.toNat)) (tC (V.int 10)) (tC (V.int 18)))))
          (tSeq (tAsg (tOp (rI CDiv fun i j => V.int (i / j)) (tVar 3) (tVar 1)) (gSub (tOp (rIxL K) (tVar 0) (tC (V.int 1))) (tVar 2) rSetL))
            (tRet (tOp (rI (fun _ j => 0 < j) fun i j => V.int (i % j)) (tVar 3) (tVar 1)))) tNext)
          (tSeq (tAsg (tOp (rI (fun _ j => 0 < j) fun i j => V.int (i % j)) (tOp (rI0 fun i j => V.int (i + j)) (tOp (rI0 fun i j => V.int (i + j)) (tOp (rI CMul fun i j => V.int (i * j)) (tOp (rIxL K) (tVar 0) (tC (V.int 0))) (tC (V.int 48271))) (tOp (rI CMul fun i j => V.int (i * j)) (tVar 3) (tC (V.int 69621)))) (tC (V.int 11))) (tC (V.int 2147483647))) (gSub (tVar 0) (tC (V.int 0)) rSetL))
            (tSeq (tAsg (tOp (rI0 fun i j => V.int (i + j)) (tOp (rIxL K) (tVar 0) (tC (V.int 2))) (tC (V.int 1))) (gSub (tVar 0) (tC (V.int 2)) rSetL))
              (tRet (tOp (rI (fun _ j => 0 < j) fun i j => V.int (i % j)) (tOp (rI CDiv fun i j => V.int (i / j)) (tOp (rIxL K) (tVar 0) (tC (V.int 0))) (tC (V.int 7))) (tVar 1))))))
          { nx := fun _ H' => Q V.non H', rt := Q } [some (.ref h), some (.int many), some (.int at_), some (.int c)] H1 := by
      rintro j c hj at_ rfl
      walk_at "go"
      refine ite2 (fun e => ?_) (fun e => ?_)
      · have e : (1000000000000000000 : Int) ≤ c := of_decide_eq_true e
        have hj := hj e
        have hlt : j < cs.length := (List.getElem?_eq_some_iff.mp hj).1
        walk_at "go"
        refine ⟨l, _, _, j, rfl, rfl, b0, Evl.ixN_nat (by rw [List.length_map]; exact hlt), ?_⟩
        walk_at "go"
        refine q _ m p (cs.set j (c / many)) _ (Int.emod_nonneg _ (by omega)) (Int.emod_lt_of_pos _ p1) (by rw [List.length_set]; exact hc) (fun b o hb n1 n2 => by rw [upd_ne n2]; exact st0 b o hb n1 n2) (by rw [upd_ne hne]; exact a0) ?_
        rw [upd_same]
        unfold hL
        rw [List.map_set]
      · walk_at "go"
        refine q _ _ (p + 1) cs _ (Int.emod_nonneg _ (by omega)) (Int.emod_lt_of_pos _ p1) hc (fun b o hb n1 n2 => by rw [upd_ne n1, upd_ne n1]; exact st0 b o hb n1 n2) (by rw [upd_same]; rfl) (by rw [upd_ne (Ne.symm hne), upd_ne (Ne.symm hne)]; exact b0)
    by_cases hcs : cs = []
    · subst hcs
      refine iteF ?_
      exact rest 0 0 (fun z => absurd z (by decide)) _ (by rw [if_neg (by decide)]; show p % 1 = 0; omega)
    · have hpos : 0 < cs.length := List.length_pos_iff.mpr hcs
      have hd : (if ((cs.length : Nat) : Int) > 1 then ((cs.length : Nat) : Int) else 1) = (cs.length : Int) := by split <;> omega
      rw [hd]
      refine iteNSF (show ¬ cs = [] from hcs) ?_
      obtain ⟨j, hj⟩ := Int.eq_ofNat_of_zero_le (Int.emod_nonneg p (show ((cs.length : Nat) : Int) ≠ 0 by omega))
      have hjl : j < cs.length := by have := Int.emod_lt_of_pos p (show (0 : Int) < ((cs.length : Nat) : Int) by omega); omega
      have hget : (cs.map V.int)[j]? = some (.int cs[j]) := by rw [List.getElem?_map, List.getElem?_eq_getElem hjl]; rfl
      refine ⟨_, rfl, h, _, 1, .ref l, rfl, rfl, s3, rfl, _, rfl, l, _, _, .int cs[j], rfl, rfl, s4, at_of hj hget, ?_⟩
      exact rest j cs[j] (fun _ => List.getElem?_eq_getElem hjl) _ hj


theorem sc_multiple : FnScope ["one", "other"] ["one", "other"] (defScope s_multiple) := ⟨rfl, rfl, rfl, by decide +kernel, rfl, by decide +kernel, by decide +kernel⟩
theorem gcdZ_pos {x y : Int} (h : 0 < x) : 0 < gcdZ x y := by
  unfold gcdZ
  have := Int.gcd_pos_of_ne_zero_left y (show x ≠ 0 by omega)
  omega
theorem gcdZ_le {x y : Int} (h : 0 < y) : gcdZ x y ≤ y := by
  unfold gcdZ
  exact Int.le_of_dvd h (Int.gcd_dvd_right x y)
def spMultiple : Sp := fun vs H Q _ => ∃ x y : Int, vs = [.int x, .int y] ∧ 0 < x ∧ 0 < y ∧ y < 1073741824 ∧ Q (.int (lcmZ x y)) H
theorem ok_multiple {f : Addr} {fd : FuncData} (F : Fun K "multiple" "multiple" s_multiple f fd) (c_divisor : Dn P w K mg base 1 "divisor" spDivisor) : FnOk P w K mg base CX0 2 f fd ["one", "other"] spMultiple := by
  have nd := sc_multiple.nd
  refine F.ok sc_multiple (fun vs H Q E h => ?_) (fun cdv A outer s H vs Q E hr h => ?_)
  · obtain ⟨x, y, rfl, _⟩ := h
    rfl
  · obtain ⟨x, y, rfl, hx, hy, hb, q⟩ := h
    refine ⟨_, 
    (pss_one (ps_ret (pe_op op_mul (pe_op op_fdiv (pv 0) (pe_d c_divisor hr (by decide) passL (by rfl) (pa_cons (pv 0) (pa_cons (pv 1) pa_nil)))) (pv 1)))), ?_⟩
    try dsimp only [cxOf, Cx.nox, Cx.wish]
    have g1 := gcdZ_pos (y := y) hx
    have g2 := gcdZ_le (x := x) hy
    walk_at "go"
    exact q
theorem sc_need_short : FnScope ["many"] ["many"] (defScope s_need_short) := ⟨rfl, rfl, rfl, by decide +kernel, rfl, by decide +kernel, by decide +kernel⟩
/-- refused if it is too many -/
def spShort (C : Addr) : Sp := fun vs H Q E => ∃ n : Int, vs = [.int n] ∧ (n ≤ 5040 → Q .non H) ∧ (5040 < n → E (.ref C) none H)
theorem ok_need_short {f C : Addr} {fd : FuncData} (F : Fun K "need_short" "need_short" s_need_short f fd) (g_MOST_MOMENTS : ∃ u, mg "MOST_MOMENTS" = some u ∧ RelV (.int 5040) u) (T_TooLong : ExC K mg "TooLong" C) :
    FnOk P w K mg base (L2.CX P w) 1 f fd ["many"] (spShort C) := by
  have nd := sc_need_short.nd
  refine F.okX sc_need_short (fun vs H Q E h => ?_) (fun cdv A outer s H vs Q E hr h => ?_)
  · obtain ⟨n, rfl, _⟩ := h
    rfl
  · obtain ⟨n, rfl, q1, q2⟩ := h
    refine ⟨_, 
    (pss_one (ps_if (pt_cmpR op_gt (pv 0) (pe_gl rfl g_MOST_MOMENTS) (nomark _)) (pss_one (ps_raise rfl (takes_of rfl rfl rfl rfl) (pmk_own PySem.F.excBase_ValueError T_TooLong.q T_TooLong.gC T_TooLong.kC (raises_own T_TooLong.sB T_TooLong.tC) rfl))) pss_nil)), ?_⟩
    try dsimp only [cxOf, Cx.nox, Cx.wish]
    walk_at "go"
    refine ite2 (fun c => ?_) (fun c => ?_)
    · exact q2 (of_decide_eq_true c)
    · exact q1 (by have c : ¬ 5040 < n := fun z => c (decide_eq_true z); omega)
theorem sc_start_of : FnScope ["form_told", "front", "ticks", "length"] ["form_told"] (defScope s_start_of) := ⟨rfl, rfl, rfl, by decide +kernel, rfl, by decide +kernel, by decide +kernel⟩
def spStart : Sp := fun vs H Q _ => ∃ (v : V) (f : Form), vs = [v] ∧ FormAt H v f ∧ ∀ H', Ex H H' → Q (.int (startOf f)) H'
theorem ok_start_of {f : Addr} {fd : FuncData} (F : Fun K "start_of" "start_of" s_start_of f fd) : FnOk P w K mg base CX0 1 f fd ["form_told"] spStart := by
  have nd := sc_start_of.nd
  refine F.ok sc_start_of (fun vs H Q E h => ?_) (fun cdv A outer s H vs Q E hr h => ?_)
  · obtain ⟨v, f, rfl, _⟩ := h
    rfl
  · obtain ⟨v, f, rfl, ⟨p, a, b, rfl, ht, ha, hb⟩, q⟩ := h
    refine ⟨_, 
    (pss_cons (ps_asg (pv 0) (pg_tup rfl (pgs_cons (pg_name (i := 1) nd rfl (Or.inl rfl)) (pgs_cons (pg_name (i := 2) nd rfl (Or.inl rfl)) (pgs_cons (pg_name (i := 3) nd rfl (Or.inl rfl)) pgs_nil)))))
    (pss_cons (ps_if (pt_cmp (neNil (K := K) rfl hr.units (pv 2))) (pss_one (ps_ret (pe_ix (ixl (K := K) rfl) (pv 2) pe_int (fun _ _ => rfl)))) pss_nil)
    (pss_one (ps_ret (pe_ifExp (pt_cmp (neNil (K := K) rfl hr.units (pv 1))) (pe_op op_add (pe_ix (ixl (K := K) rfl) (pv 1) (pe_un un_neg pe_int) (fun _ _ => rfl)) pe_int) pe_int))))), ?_⟩
    try dsimp only [cxOf, Cx.nox, Cx.wish]
    walk_at "go"
    unfold startOf at q
    refine ite2 (fun c => ?_) (fun c => ?_)
    · have c := of_bnot c
      rw [if_pos c] at q
      refine ⟨_, rfl, b, _, 0, _, rfl, rfl, by walk_at "seq", atI_headI c, ?_⟩
      exact q _ (by walk_at "ex")
    · have c := not_bnot c
      rw [if_neg (fun z => z c)] at q
      walk_at "go"
      refine ite2 (fun d => ?_) (fun d => ?_)
      · have d := of_bnot d
        rw [if_pos d] at q
        refine ⟨_, rfl, 1, rfl, a, _, -1, _, rfl, rfl, by walk_at "seq", atI_lastI d, ?_⟩
        walk_at "go"
        exact q _ (by walk_at "ex")
      · rw [if_neg (fun z => z (not_bnot d))] at q
        exact q _ (by walk_at "ex")


theorem sc_gaps_round : FnScope ["ticks", "length", "soon", "late"] ["ticks", "length"] (defScope s_gaps_round) := ⟨rfl, rfl, rfl, by decide +kernel, rfl, by decide +kernel, by decide +kernel⟩
def spGapsRound (K : PySem.W.Frag) : Sp := fun vs H Q _ => ∃ (a : Addr) (ticks : List Int) (len : Int), vs = [.ref a, .int len] ∧ SqL K H a (ticks.map V.int) ∧ ticks ≠ [] ∧ ticks.length ≤ 100000 ∧ nL H ((gapsRound ticks len).map V.int) Q
theorem ok_gaps_round {f : Addr} {fd : FuncData} (F : Fun K "gaps_round" "gaps_round" s_gaps_round f fd) (B : Blt mg) : FnOk P w K mg base CX0 1 f fd ["ticks", "length"] (spGapsRound K) := by
  have nd := sc_gaps_round.nd
  refine F.ok sc_gaps_round (fun vs H Q E h => ?_) (fun cdv A outer s H vs Q E hr h => ?_)
  · obtain ⟨a, ticks, len, rfl, _⟩ := h
    rfl
  · obtain ⟨a, ticks, len, rfl, hS, hne, hl, q⟩ := h
    refine ⟨_, 
    (pss_one (ps_ret (pe_lc (own := [("soon", 2), ("late", 3)]) (g := gTup K 2 (gCons (gName 2) (gCons (gName 3) gNil))) rfl nd (pi_zip (by rfl) B.zip (pa_cons (pv 0) (pa_cons (pe_op op_catN (pe_slice (slK (K := K) rfl) (pv 0) (po_some pe_int) po_none) (pe_lstN (pa_cons (pe_op op_add (pe_ix (ixl (K := K) rfl) (pv 0) pe_int (fun _ _ => rfl)) (pv 1)) pa_nil))) pa_nil))) (blkOk_by (N := ["ticks", "length", "soon", "late"]) (sc := defScope s_gaps_round) (by decide +kernel)) (fun _ _ _ _ _ => (pg_tup rfl (pgs_cons (pg_name (i := 2) nd rfl (Or.inl rfl)) (pgs_cons (pg_name (i := 3) nd rfl (Or.inl rfl)) pgs_nil)))) (fun _ _ _ _ _ => pts_nil) (fun _ _ _ _ _ => (pe_op op_sub (pv 3) (pv 2)))))), ?_⟩
    try dsimp only [cxOf, Cx.nox, Cx.wish]
    walk_at "go"
    refine nL_intro fun c H1 nc e1 hc => ?_
    refine ⟨_, rfl, a, _, 0, _, rfl, rfl, e1.sqL hS, atI_headI hne, ?_⟩
    walk_at "go"
    refine nL_intro fun d H2 ndd e2 hd => ?_
    refine ⟨c, d, _, _, rfl, rfl, e2 _ _ hc, hd, ?_, ?_⟩
    · have := cutV_length (ticks.map V.int) (some 1) none
      rw [List.length_map] at this
      show _ + 1 ≤ sizeLine
      exact Nat.le_trans (Nat.succ_le_succ (Nat.le_trans this hl)) (by decide)
    refine nL_intro fun b H3 nb e3 hb => ?_
    have hb : H3 b = some (.lst ((ticks.tail ++ [ticks.headD 0 + len]).map V.int)) := by
      rw [hb, show (1 : Int) = ((1 : Nat) : Int) from rfl, cut_from]
      simp
    have hlen : (ticks.tail ++ [ticks.headD 0 + len]).length = ticks.length := by
      have : 0 < ticks.length := List.length_pos_iff.mpr hne
      simp; omega
    have hS3 : SqL K H3 a (ticks.map V.int) := by
      walk_at "seq"
    refine ⟨a, b, _, _, rfl, hS3, .of hb, ?_⟩
    refine lc_all ((gapsRound ticks len).map V.int) (by rw [List.length_map, List.length_map]; unfold gapsRound; rw [List.length_zipWith, hlen, Nat.min_self]) (Goes.zip (xs := ticks.map V.int) (ys := (ticks.tail ++ [ticks.headD 0 + len]).map V.int) (by walk_at "seq") (.of hb) (by rw [List.length_map, List.length_map, hlen])) (by rw [List.length_map]; omega) ?_ ?_
    · rintro i x H' hi e ⟨T, y, z, rfl, hy, hz, hT⟩ R hR
      obtain ⟨y, hy2, rfl⟩ := getMapI hy
      obtain ⟨z, hz2, rfl⟩ := getMapI hz
      refine ⟨T, [.int y, .int z], rfl, .of hT, rfl, _, _, rfl, _, _, rfl, rfl, rfl, ?_⟩
      walk_at "go"
      refine hR _ _ ?_ (Ex.refl _)
      unfold gapsRound
      rw [List.getElem?_map, List.getElem?_zipWith, hy2, hz2]
      rfl
    · exact fun p H' np e h => q p H' (by walk_at "fresh") (by walk_at "ex") h
theorem sc_tick_at : FnScope ["form_told", "number", "front", "ticks", "length", "times", "rest"] ["form_told", "number"] (defScope s_tick_at) := ⟨rfl, rfl, rfl, by decide +kernel, rfl, by decide +kernel, by decide +kernel⟩
def spTick : Sp := fun vs H Q _ => ∃ (v : V) (f : Form) (n : Int), vs = [v, .int n] ∧ FormAt H v f ∧ 0 ≤ n ∧ f.round.length < 1000000 ∧ -(2 ^ 64) < f.len ∧ f.len < 2 ^ 64 ∧ ∀ H', Ex H H' → Q (optV (tickAt f n)) H'
theorem ok_tick_at {f : Addr} {fd : FuncData} (F : Fun K "tick_at" "tick_at" s_tick_at f fd) (B : Blt mg) : FnOk P w K mg base CX0 1 f fd ["form_told", "number"] spTick := by
  have nd := sc_tick_at.nd
  refine F.ok sc_tick_at (fun vs H Q E h => ?_) (fun cdv A outer s H vs Q E hr h => ?_)
  · obtain ⟨v, f, n, rfl, _⟩ := h
    rfl
  · obtain ⟨v, f, n, rfl, ⟨p, a, b, rfl, ht, ha, hb⟩, hn, hl, l1, l2, q⟩ := h
    refine ⟨_, 
    (pss_cons (ps_asg (pv 0) (pg_tup rfl (pgs_cons (pg_name (i := 2) nd rfl (Or.inl rfl)) (pgs_cons (pg_name (i := 3) nd rfl (Or.inl rfl)) (pgs_cons (pg_name (i := 4) nd rfl (Or.inl rfl)) pgs_nil)))))
    (pss_cons (ps_if (pt_cmpR op_lt (pv 1) (pe_callB (lenK (K := K) rfl) (by rfl) B.len PySem.boot_len (pa_cons (pv 2) pa_nil)) (nomark _)) (pss_one (ps_ret (pe_ix (ixl (K := K) rfl) (pv 2) (pv 1) (fun _ _ => rfl)))) pss_nil)
    (pss_cons (ps_if (pt_cmp (eqNil (K := K) rfl hr.units (pv 3))) (pss_one (ps_ret pe_non)) pss_nil)
    (pss_cons (ps_asg (pe_callB call_divmodN (by rfl) B.divmod bt_divmod (pa_cons (pe_op op_sub (pv 1) (pe_callB (lenK (K := K) rfl) (by rfl) B.len PySem.boot_len (pa_cons (pv 2) pa_nil))) (pa_cons (pe_callB (lenK (K := K) rfl) (by rfl) B.len PySem.boot_len (pa_cons (pv 3) pa_nil)) pa_nil))) (pg_tup rfl (pgs_cons (pg_name (i := 5) nd rfl (Or.inl rfl)) (pgs_cons (pg_name (i := 6) nd rfl (Or.inl rfl)) pgs_nil))))
    (pss_one (ps_ret (pe_op op_add (pe_ix (ixl (K := K) rfl) (pv 3) (pv 6) (fun _ _ => rfl)) (pe_op op_mul (pv 5) (pv 4))))))))), ?_⟩
    try dsimp only [cxOf, Cx.nox, Cx.wish]
    walk_at "go"
    rw [List.length_map]
    unfold tickAt at q
    refine ite2 (fun c => ?_) (fun c => ?_)
    · have c := of_decide_eq_true c
      rw [if_pos c] at q
      refine ⟨_, rfl, _, rfl, a, _, n, _, rfl, rfl, by walk_at "seq", atI_getI hn c, ?_⟩
      have := q _ (Ex.refl _)
      have hlt : n.toNat < f.front.length := by omega
      rw [List.getElem?_eq_getElem hlt] at this
      rw [show f.front.getD n.toNat 0 = f.front[n.toNat] by simp [List.getD, hlt]]
      exact this
    · rw [if_neg (not_dec c)] at q
      walk_at "go"
      refine ite2 (fun d => ?_) (fun d => ?_)
      · have d := of_decide_eq_true d
        rw [if_pos d] at q
        exact q _ (by walk_at "ex")
      · have d := not_dec d
        rw [if_neg d] at q
        have hpos : 0 < f.round.length := List.length_pos_iff.mpr d
        have c := not_dec c
        walk_at "go"
        refine nT_intro fun T H2 nT2 e2 hT => ?_
        walk_at "go"
        rw [List.length_map, List.length_map] at *
        have h1 := Int.emod_nonneg (n - (f.front.length : Int)) (show ((f.round.length : Nat) : Int) ≠ 0 by omega)
        have h2 := Int.emod_lt_of_pos (n - (f.front.length : Int)) (show (0 : Int) < ((f.round.length : Nat) : Int) by omega)
        refine ⟨b, _, _, _, rfl, rfl, by walk_at "seq", atI_getI h1 h2, ?_⟩
        walk_at "go"
        exact q _ (by walk_at "ex")
theorem sc_count_ahead : FnScope ["form_told", "moment", "front", "ticks", "length", "found", "one", "times", "rest"] ["form_told", "moment"] (defScope s_count_ahead) := ⟨rfl, rfl, rfl, by decide +kernel, rfl, by decide +kernel, by decide +kernel⟩
def spCount : Sp := fun vs H Q _ => ∃ (v : V) (f : Form) (m : Int), vs = [v, .int m] ∧ FormAt H v f ∧ f.front.length < 1000000 ∧ f.round.length < 1000000 ∧ (f.round ≠ [] → 0 < f.len ∧ f.len < 1000000) ∧ ∀ H', Ex H H' → Q (.int (countAhead f m)) H'
theorem ok_count_ahead {f : Addr} {fd : FuncData} (F : Fun K "count_ahead" "count_ahead" s_count_ahead f fd) (B : Blt mg) : FnOk P w K mg base CX0 1 f fd ["form_told", "moment"] spCount := by
  have nd := sc_count_ahead.nd
  refine F.ok sc_count_ahead (fun vs H Q E h => ?_) (fun cdv A outer s H vs Q E hr h => ?_)
  · obtain ⟨v, f, n, rfl, _⟩ := h
    rfl
  · obtain ⟨v, f, m, rfl, ⟨p, a, b, rfl, ht, ha, hb⟩, l1, l2, l3, q⟩ := h
    refine ⟨_, 
    (pss_cons (ps_asg (pv 0) (pg_tup rfl (pgs_cons (pg_name (i := 2) nd rfl (Or.inl rfl)) (pgs_cons (pg_name (i := 3) nd rfl (Or.inr rfl)) (pgs_cons (pg_name (i := 4) nd rfl (Or.inl rfl)) pgs_nil)))))
    (pss_cons (ps_set (i := 5) nd rfl (Or.inl rfl) (pe_callB (lenK (K := K) rfl) (by rfl) B.len PySem.boot_len (pa_cons (pe_lc (own := [("one", 6)]) (g := gName 6) rfl nd (pi_list (pv 2)) (blkOk_by (N := ["form_told", "moment", "front", "ticks", "length", "found", "one", "times", "rest"]) (sc := defScope s_count_ahead) (by decide +kernel)) (fun _ _ _ _ _ => pg_name (i := 6) nd rfl (Or.inl rfl)) (fun _ _ _ _ _ => (pts_one (pt_cmpR op_lt (pv 6) (pv 1) (nomark _)))) (fun _ _ _ _ _ => (pv 6))) pa_nil)))
    (pss_cons (ps_if (PW.pt (pw_or (pt_cmp (eqNil (K := K) rfl hr.units (pv 3))) (pw_or1 (pt_cmpR op_le (pv 1) (pe_ix (ixl (K := K) rfl) (pv 3) pe_int (fun _ _ => rfl)) (nomark _))))) (pss_one (ps_ret (pv 5))) pss_nil)
    (pss_cons (ps_asg (pe_callB call_divmodN (by rfl) B.divmod bt_divmod (pa_cons (pe_op op_sub (pv 1) (pe_ix (ixl (K := K) rfl) (pv 3) pe_int (fun _ _ => rfl))) (pa_cons (pv 4) pa_nil))) (pg_tup rfl (pgs_cons (pg_name (i := 7) nd rfl (Or.inl rfl)) (pgs_cons (pg_name (i := 8) nd rfl (Or.inr rfl)) pgs_nil))))
    (pss_one (ps_ret (pe_op op_add (pe_op op_add (pv 5) (pe_op op_mul (pv 7) (pe_callB (lenK (K := K) rfl) (by rfl) B.len PySem.boot_len (pa_cons (pv 3) pa_nil)))) (pe_callB (lenK (K := K) rfl) (by rfl) B.len PySem.boot_len (pa_cons (pe_lc (own := [("one", 6)]) (g := gName 6) rfl nd (pi_list (pv 3)) (blkOk_by (N := ["form_told", "moment", "front", "ticks", "length", "found", "one", "times", "rest"]) (sc := defScope s_count_ahead) (by decide +kernel)) (fun _ _ _ _ _ => pg_name (i := 6) nd rfl (Or.inl rfl)) (fun _ _ _ _ _ => (pts_one (pt_cmpR op_lt (pe_op op_sub (pv 6) (pe_ix (ixl (K := K) rfl) (pv 3) pe_int (fun _ _ => rfl))) (pv 8) (nomark _)))) (fun _ _ _ _ _ => (pv 6))) pa_nil))))))))), ?_⟩
    try dsimp only [cxOf, Cx.nox, Cx.wish]
    walk_at "go"
    have hA : ∀ l : List Int, ∀ (i : Nat) (x : V), (l.map V.int)[i]? = some x → ∃ y, l[i]? = some y ∧ x = V.int y := fun l i x h => getMapI h
    refine lc_out (fun i => (f.front[i]?).bind fun x => if decide (x < m) then some (V.int x) else none) (Goes.list (.of ha)) (by rw [List.length_map]; omega) ?_ ?_
    · rintro i x H' hi e hx R hR
      obtain ⟨y, hy, rfl⟩ := hA _ _ _ hx
      refine ⟨rfl, ?_⟩
      walk_at "go"
      refine ite2 (fun c => ?_) (fun c => ?_)
      · walk_at "go"
        exact hR _ _ (by rw [hy]; show (if _ then _ else _) = _; rw [if_pos c]) (by walk_at "ex")
      · exact hR _ _ (by rw [hy]; show (if _ then _ else _) = _; rw [if_neg c]) (by walk_at "ex")
    · rw [List.length_map, outs_filter (p := fun x => decide (x < m)) (f := V.int) fun i x h => by rw [h]; rfl]
      intro c H1 nc e1 hc
      walk_at "go"
      have q' : ∀ z : Int, z = countAhead f m → ∀ H', Ex H H' → Q (.int z) H' := fun z hz => by rw [hz]; exact q
      unfold countAhead countBelow at q'
      refine ite2 (fun d => ?_) (fun d => ?_)
      · have d := of_decide_eq_true d
        refine iteT ?_
        walk_at "go"
        exact q' _ (by rw [if_pos (.inl d), List.length_map]) _ (by walk_at "ex")
      · have d := not_dec d
        walk_at "go"
        refine ⟨b, _, 0, _, rfl, rfl, by walk_at "seq", atI_headI d, ?_⟩
        walk_at "go"
        refine ite2 (fun d2 => ?_) (fun d2 => ?_)
        · have d2 := of_decide_eq_true d2
          walk_at "go"
          exact q' _ (by rw [if_pos (.inr d2), List.length_map]) _ (by walk_at "ex")
        · have d2 := not_dec d2
          obtain ⟨l4, l5⟩ := l3 d
          rw [if_neg (by rintro (z | z) <;> contradiction)] at q'
          walk_at "go"
          refine ⟨b, _, 0, _, rfl, rfl, by walk_at "seq", atI_headI d, ?_⟩
          walk_at "go"
          refine nT_intro fun T H2 nT2 e2 hT => ?_
          walk_at "go"
          have hb2 : SqL K H2 b (f.round.map V.int) := by walk_at "seq"
          refine lc_out (fun i => (f.round[i]?).bind fun x => if decide (x - f.round.headD 0 < (m - f.round.headD 0) % f.len) then some (V.int x) else none) (Goes.list hb2) (by rw [List.length_map]; omega) ?_ ?_
          · rintro i x H' hi e hx R hR
            obtain ⟨y, hy, rfl⟩ := hA _ _ _ hx
            refine ⟨rfl, ?_⟩
            walk_at "go"
            refine ⟨b, _, 0, _, rfl, rfl, by walk_at "seq", atI_headI d, ?_⟩
            walk_at "go"
            refine ite2 (fun c => ?_) (fun c => ?_)
            · walk_at "go"
              exact hR _ _ (by rw [hy]; show (if _ then _ else _) = _; rw [if_pos c]) (by walk_at "ex")
            · exact hR _ _ (by rw [hy]; show (if _ then _ else _) = _; rw [if_neg c]) (by walk_at "ex")
          · rw [List.length_map, outs_filter (p := fun x => decide (x - f.round.headD 0 < (m - f.round.headD 0) % f.len)) (f := V.int) fun i x h => by rw [h]; rfl]
            intro c2 H3 nc2 e3 hc2
            walk_at "go"
            exact q' _ (by simp only [List.length_map]) _ (by walk_at "ex")


theorem sc_all_ahead : FnScope ["form_told", "moment", "number"] ["form_told", "moment"] (defScope s_all_ahead) := ⟨rfl, rfl, rfl, by decide +kernel, rfl, by decide +kernel, by decide +kernel⟩
theorem tickAt_some {f : Form} {n m : Int} (h0 : 0 ≤ n) (h : n < countAhead f m) : tickAt f n = some (tickZ f n) := by
  unfold tickZ
  cases e : tickAt f n with
  | some x => rfl
  | none =>
    unfold tickAt at e
    by_cases c : n < f.front.length
    · rw [if_pos c, List.getElem?_eq_getElem (by omega)] at e
      cases e
    · rw [if_neg c] at e
      by_cases d : f.round = []
      · unfold countAhead at h
        rw [if_pos (.inl d)] at h
        unfold countBelow at h
        have := List.length_filter_le (fun x => decide (x < m)) f.front
        omega
      · rw [if_neg d] at e
        cases e
theorem countAhead_nn {f : Form} {m : Int} (h : f.round ≠ [] → 0 < f.len) : 0 ≤ countAhead f m := by
  unfold countAhead countBelow
  split
  · omega
  · rename_i c
    have c1 : f.round ≠ [] := fun z => c (.inl z)
    have c2 : ¬ m ≤ f.round.headD 0 := fun z => c (.inr z)
    have h1 : 0 ≤ (m - f.round.headD 0) / f.len := Int.ediv_nonneg (by omega) (by have := h c1; omega)
    have h2 : 0 ≤ (m - f.round.headD 0) / f.len * (f.round.length : Int) := Int.mul_nonneg h1 (by omega)
    omega
def spAll (K : PySem.W.Frag) : Sp := fun vs H Q _ => ∃ (v : V) (f : Form) (m : Int), vs = [v, .int m] ∧ FormAt H v f ∧ f.front.length < 1000000 ∧ f.round.length < 1000000 ∧ (f.round ≠ [] → 0 < f.len) ∧ f.len < 1000000 ∧ -1 < f.len ∧ countAhead f m ≤ 1000000 ∧ nL H ((allAhead f m).map V.int) Q
theorem ok_all_ahead {f : Addr} {fd : FuncData} (F : Fun K "all_ahead" "all_ahead" s_all_ahead f fd) (B : Blt mg) (c_tick_at : Dn P w K mg base 1 "tick_at" spTick) (c_count_ahead : Dn P w K mg base 1 "count_ahead" spCount) :
    FnOk P w K mg base CX0 2 f fd ["form_told", "moment"] (spAll K) := by
  have nd := sc_all_ahead.nd
  refine F.ok sc_all_ahead (fun vs H Q E h => ?_) (fun cdv A outer s H vs Q E hr h => ?_)
  · obtain ⟨v, f, m, rfl, _⟩ := h
    rfl
  · obtain ⟨v, f, m, rfl, hf, l1, l2, l3, l4, l5, l6, q⟩ := h
    refine ⟨_, 
    (pss_one (ps_ret (pe_lc (own := [("number", 2)]) (g := gName 2) rfl nd (pi_range1 (by rfl) B.range (pa_cons (pe_d c_count_ahead hr (by decide) passL (by rfl) (pa_cons (pv 0) (pa_cons (pv 1) pa_nil))) pa_nil)) (blkOk_by (N := ["form_told", "moment", "number"]) (sc := defScope s_all_ahead) (by decide +kernel)) (fun _ _ _ _ _ => pg_name (i := 2) nd rfl (Or.inl rfl)) (fun _ _ _ _ _ => pts_nil) (fun _ _ _ _ _ => (pe_d c_tick_at hr (by decide) passL (by rfl) (pa_cons (pv 0) (pa_cons (pv 2) pa_nil))))))), ?_⟩
    try dsimp only [cxOf, Cx.nox, Cx.wish]
    walk_at "go"
    have nn := countAhead_nn (m := m) l3
    refine ⟨v, f, m, rfl, hf, l1, l2, fun d => ⟨l3 d, l4⟩, fun H1 e1 => ?_⟩
    walk_at "go"
    have hl : ((allAhead f m).map V.int).length = (countAhead f m).toNat := by
      unfold allAhead rangeZ
      simp only [List.length_map, List.length_range]
    refine lc_all ((allAhead f m).map V.int) hl Goes.range (by omega) ?_ ?_
    · rintro i x H' hi e rfl R hR
      refine ⟨rfl, ?_⟩
      walk_at "go"
      refine ⟨v, f, _, rfl, by walk_at "seq", by omega, l2, by omega, by omega, fun H2 e2 => ?_⟩
      refine hR _ _ ?_ e2
      rw [tickAt_some (m := m) (by omega) (by omega)]
      unfold allAhead rangeZ
      rw [List.getElem?_map, List.getElem?_map, List.getElem?_map, List.getElem?_range (by omega)]
      rfl
    · intro p H2 np e2 hp
      exact q p H2 (by walk_at "fresh") (by walk_at "ex") hp


theorem sc_settled : FnScope ["front", "ticks", "length", "gaps", "many", "ahead"] ["front", "ticks", "length"] (defScope s_settled) := ⟨rfl, rfl, rfl, by decide +kernel, rfl, by decide +kernel, by decide +kernel⟩
theorem partOk_all {g : List Int} (h : g ≠ []) : partOk g g.length = true := by
  have hp : 0 < g.length := List.length_pos_iff.mpr h
  unfold partOk
  rw [Nat.mod_self, Nat.div_self hp, List.take_length]
  simp
theorem rep_map {g : List Int} {k n : Nat} : (List.replicate n ((g.map V.int).take k)).flatten = ((List.replicate n (g.take k)).flatten).map V.int := by
  rw [List.map_flatten, List.map_replicate, List.map_take]
theorem leastFrom_bd (g : List Int) : ∀ n k, leastFrom g n k ≤ n + k
  | 0, k => by unfold leastFrom; omega
  | n + 1, k => by
    unfold leastFrom
    split
    · omega
    · have := leastFrom_bd g n (k + 1)
      omega
theorem rev_last {l : List Int} (h : l ≠ []) : l.reverse = l.getLastD 0 :: l.dropLast.reverse := by
  have e : l = l.dropLast ++ [l.getLastD 0] := by
    rw [List.getLastD_eq_getLast?, List.getLast?_eq_some_getLast h]
    exact (List.dropLast_concat_getLast h).symm
  rw [e, List.reverse_append]
  simp
def spSettled (K : PySem.W.Frag) : Sp := fun vs H Q _ => ∃ (a b : Addr) (front ticks : List Int) (len : Int), vs = [.ref a, .ref b, .int len] ∧ SqL K H a (front.map V.int) ∧ SqL K H b (ticks.map V.int) ∧ front.length ≤ 100000 ∧ ticks.length ≤ 100000 ∧
  ∀ v H', Ex H H' → FormNew H H' v (settled front ticks len) → Q v H'
theorem ok_settled {f : Addr} {fd : FuncData} (F : Fun K "settled" "settled" s_settled f fd) (B : Blt mg) (c_gaps_round : Dn P w K mg base 1 "gaps_round" (spGapsRound K)) :
    FnOk P w K mg base CX0 2 f fd ["front", "ticks", "length"] (spSettled K) := by
  have nd := sc_settled.nd
  refine F.ok sc_settled (fun vs H Q E h => ?_) (fun cdv A outer s H vs Q E hr h => ?_)
  · obtain ⟨a, b, front, ticks, len, rfl, _⟩ := h
    rfl
  · obtain ⟨a, b, front, ticks, len, rfl, ha, hb, l1, l2, q⟩ := h
    refine ⟨_, 
    (pss_cons (ps_if (pt_cmp (eqNil (K := K) rfl hr.units (pv 1))) (pss_one (ps_ret (pe_tupN (pa_cons (pe_callTy (listK (K := K) rfl) (by rfl) B.list bt_list (pa_cons (pv 0) pa_nil)) (pa_cons (pe_lstN pa_nil) (pa_cons pe_int pa_nil)))))) pss_nil)
    (pss_cons (ps_set (i := 3) nd rfl (Or.inl rfl) (pe_d c_gaps_round hr (by decide) passL (by rfl) (pa_cons (pv 1) (pa_cons (pv 2) pa_nil))))
    (pss_cons (ps_set (i := 4) nd rfl (Or.inl rfl) pe_int)
    (pss_cons (ps_while PassesOwn.never (PW.pt (pw_or (pt_cmpR op_ne (pe_op op_mod (pe_callB (lenK (K := K) rfl) (by rfl) B.len PySem.boot_len (pa_cons (pv 3) pa_nil)) (pv 4)) pe_int (nomark _)) (pw_or1 (pt_cmpR (neLI (K := K) rfl hr.units) (pv 3) (pe_op op_repN (pe_slice (slK (K := K) rfl) (pv 3) po_none (po_some (pv 4))) (pe_op op_fdiv (pe_callB (lenK (K := K) rfl) (by rfl) B.len PySem.boot_len (pa_cons (pv 3) pa_nil)) (pv 4))) (nomark _))))) (pss_one (ps_set (i := 4) nd rfl (Or.inl rfl) (pe_op op_add (pv 4) pe_int))))
    (pss_cons (ps_set (i := 2) nd rfl (Or.inl rfl) (pe_callB (sumK (K := K) rfl rfl) (by rfl) B.sum bt_sum (pa_cons (pe_slice (slK (K := K) rfl) (pv 3) po_none (po_some (pv 4))) pa_nil)))
    (pss_cons (ps_set (i := 5) nd rfl (Or.inl rfl) (pe_callTy (listK (K := K) rfl) (by rfl) B.list bt_list (pa_cons (pv 0) pa_nil)))
    (pss_cons (ps_set (i := 1) nd rfl (Or.inl rfl) (pe_slice (slK (K := K) rfl) (pv 1) po_none (po_some (pv 4))))
    (pss_cons (ps_while PassesOwn.never (PW.pt (pw_and (pt_cmp (neNil (K := K) rfl hr.units (pv 5))) (pw_and1 (pt_cmpR op_eq (pe_op op_add (pe_ix (ixl (K := K) rfl) (pv 5) (pe_un un_neg pe_int) (fun _ _ => rfl)) (pv 2)) (pe_ix (ixl (K := K) rfl) (pv 1) (pe_un un_neg pe_int) (fun _ _ => rfl)) (nomark _))))) (pss_one (ps_set (i := 1) nd rfl (Or.inl rfl) (pe_op op_catN (pe_lstN (pa_cons (pe_bm0 PySem.F.plainAttrs_list PySem.F.slot_list_pop PySem.F.type_list_pop mt_pop (pv 5)) pa_nil)) (pe_slice (slK (K := K) rfl) (pv 1) po_none (po_some (pe_un un_neg pe_int)))))))
    (pss_one (ps_ret (pe_tupN (pa_cons (pv 5) (pa_cons (pv 1) (pa_cons (pv 2) pa_nil)))))))))))))), ?_⟩
    try dsimp only [cxOf, Cx.nox, Cx.wish]
    walk_at "go"
    rename_i H1 e1
    unfold settled at q
    refine ite2 (fun c => ?_) (fun c => ?_)
    · have c := of_decide_eq_true c
      rw [if_pos c] at q
      walk_at "go"
      refine nL_intro fun x H2 nx e2 hx => ?_
      walk_at "go"
      refine nL_intro fun y H3 ny e3 hy => ?_
      walk_at "go"
      refine nT_intro fun p H4 np e4 hp => ?_
      exact q _ _ (by walk_at "ex") (FormNew.mk3 (H1 := H1) e1 (by walk_at "fresh") (by walk_at "fresh") np (ne_of_none hx ny) (by walk_at "ex") e4 (e3 _ _ hx) hy hp)
    · have c := not_dec c
      rw [if_neg c] at q
      dsimp only at q
      refine ⟨_, rfl, _, rfl, b, ticks, len, rfl, by walk_at "seq", c, l2, ?_⟩
      refine nL_intro fun g H2 ng e2 hg => ?_
      generalize hG : gapsRound ticks len = G at hg q
      have hlen : G.length = ticks.length := by
        rw [← hG]
        unfold gapsRound
        have : 0 < ticks.length := List.length_pos_iff.mpr c
        simp; omega
      have hG0 : G ≠ [] := by
        intro z
        rw [z] at hlen
        exact c (List.length_eq_zero_iff.mp hlen.symm)
      have hgp : 0 < G.length := List.length_pos_iff.mpr hG0
      walk_at "go"
      refine ⟨fun m σ H' => Ex H2 H' ∧ ∃ k : Nat, σ = [some (.ref a), some (.ref b), some (.int len), some (.ref g), some (.int (k : Int)), none] ∧ 1 ≤ k ∧ k ≤ G.length ∧ leastFrom G (G.length + 1 - k) k = least G ∧ m = G.length - k,
        ⟨_, Ex.refl _, 1, rfl, by omega, by omega, rfl, rfl⟩, ?_⟩
      rintro m σ H3 ⟨e3, k, rfl, k1, k2, hk, rfl⟩
      have hg3 := e3 _ _ hg
      walk_at "go"
      have hun : leastFrom G (G.length + 1 - k) k = if partOk G k then k else leastFrom G (G.length - k) (k + 1) := by
        rw [show G.length + 1 - k = (G.length - k) + 1 by omega]
        rfl
      have step : partOk G k = false → k < G.length ∧ leastFrom G (G.length + 1 - (k + 1)) (k + 1) = least G := fun hp => by
        have h1 : k ≠ G.length := fun z => by
          rw [z, partOk_all hG0] at hp
          cases hp
        refine ⟨by omega, ?_⟩
        rw [hun, if_neg (by rw [hp]; decide)] at hk
        rw [show G.length + 1 - (k + 1) = G.length - k by omega]
        exact hk
      have done : partOk G k = true → least G = k := fun hp => by
        rw [hun, if_pos hp] at hk
        exact hk.symm
      have hGl : ((G.map V.int).length : Int) = (G.length : Int) := by rw [List.length_map]
      have hmod : ((G.map V.int).length : Int) % (k : Int) = ((G.length % k : Nat) : Int) := by rw [hGl]; omega
      refine ite2 (fun c1 => ?_) (fun c1 => ?_)
      · have hp : partOk G k = false := by
          have c1 := of_bnot c1
          unfold partOk
          rw [decide_eq_false (show ¬ G.length % k = 0 from fun z => c1 (show V.int (((G.map V.int).length : Int) % (k : Int)) = V.int 0 by rw [hmod, z]; rfl))]
          rfl
        obtain ⟨k3, hk3⟩ := step hp
        refine iteT ?_
        refine ⟨fun σ2 H' => Ex H2 H' ∧ σ2 = [some (.ref a), some (.ref b), some (.int len), some (.ref g), some (.int ((k + 1 : Nat) : Int)), none], ?_, ?_⟩
        · rintro σ2 H' ⟨e', rfl⟩
          exact ⟨G.length - (k + 1), by omega, e', k + 1, rfl, by omega, by omega, hk3, rfl⟩
        · walk_at "go"
          first | exact ⟨by walk_at "ex", rfl⟩ | exact rfl
      · have c1 : G.length % k = 0 := by
          have c1 := not_bnot c1
          have c1 : ((G.map V.int).length : Int) % (k : Int) = 0 := V.int.inj c1
          rw [hmod] at c1
          omega
        walk_at "go"
        refine nL_intro fun t H4 nt e4 ht => ?_
        rw [cut_to] at ht
        walk_at "go"
        have hdiv : ((G.map V.int).length : Int) / (k : Int) = ((G.length / k : Nat) : Int) := by rw [hGl]; omega
        have hdk : G.length / k ≤ G.length := Nat.div_le_self _ _
        have hdm : k * (G.length / k) ≤ G.length := Nat.mul_div_le _ _
        have hpd : (decide (G.length % k = 0) && decide (G = (List.replicate (G.length / k) (G.take k)).flatten)) = partOk G k := rfl
        generalize G.length / k = qk at hdiv hdk hdm hpd
        refine ⟨t, _, _, rfl, rfl, ht, ?_, ?_, ?_, ?_⟩
        · rw [hdiv]; omega
        · rw [hdiv]; omega
        · rw [hdiv, List.length_take, List.length_map]
          have h1 : min k G.length * qk ≤ k * qk := Nat.mul_le_mul_right _ (Nat.min_le_left _ _)
          show min k G.length * ((qk : Int)).toNat ≤ sizeLine
          rw [Int.toNat_natCast]
          exact Nat.le_trans (Nat.le_trans (Nat.le_trans h1 hdm) (by omega : G.length ≤ 100000)) (by decide)
        refine nL_intro fun r H5 nr e5 hr5 => ?_
        rw [hdiv, Int.toNat_natCast, rep_map] at hr5
        refine ⟨g, r, G, _, rfl, rfl, by walk_at "seq", .of hr5, ?_⟩
        walk_at "go"
        refine ite2 (fun c2 => ?_) (fun c2 => ?_)
        · have hp : partOk G k = false := by
            have c2 := of_bnot c2
            rw [← hpd, decide_eq_false c2, Bool.and_false]
          obtain ⟨k3, hk3⟩ := step hp
          refine ⟨fun σ2 H' => Ex H2 H' ∧ σ2 = [some (.ref a), some (.ref b), some (.int len), some (.ref g), some (.int ((k + 1 : Nat) : Int)), none], ?_, ?_⟩
          · rintro σ2 H' ⟨e', rfl⟩
            exact ⟨G.length - (k + 1), by omega, e', k + 1, rfl, by omega, by omega, hk3, rfl⟩
          · walk_at "go"
            first | exact ⟨by walk_at "ex", rfl⟩ | exact rfl
        · have hp : partOk G k = true := by
            have c2 := not_bnot c2
            rw [← hpd, decide_eq_true c1, decide_eq_true c2]
            rfl
          rw [done hp] at q
          clear hun step done hk
          walk_at "go"
          refine nL_intro fun t2 H6 nt2 e6 ht2 => ?_
          rw [cut_to, ← List.map_take] at ht2
          walk_at "go"
          refine nL_intro fun l H7 nl e7 hl => ?_
          walk_at "go"
          refine nL_intro fun t3 H8 nt3 e8 ht3 => ?_
          rw [cut_to, ← List.map_take] at ht3
          have htk0 : ticks.take k ≠ [] := fun z => by
            rcases List.take_eq_nil_iff.mp z with h | h
            · omega
            · exact c h
          have nt3l : t3 ≠ l := fun z => by
            rw [z, hl] at nt3
            cases nt3
          have n6 : H6 l = none := nl
          have e60 : Ex H H6 := by walk_at "ex"
          have n3 : H t3 = none := by walk_at "fresh"
          generalize hL : (G.take k).sum = L at q ⊢
          refine ⟨fun m σ H' => ∃ (ah tk : List Int) (t : Addr), σ = [some (.ref a), some (.ref t), some (.int L), some (.ref g), some (.int (k : Int)), some (.ref l)] ∧ Ex H6 H' ∧ LI H' l ah ∧ LI H' t tk ∧ H t = none ∧ t ≠ l ∧ tk ≠ [] ∧ ah.length ≤ 100000 ∧ tk.length ≤ 100000 ∧
              rollBack L ah.reverse tk = rollBack L front.reverse (ticks.take k) ∧ m = ah.length,
            ⟨_, front, ticks.take k, t3, rfl, by walk_at "ex", e8 _ _ hl, ht3, n3, nt3l, htk0, l1, by rw [List.length_take]; omega, rfl, rfl⟩, ?_⟩
          clear hl ht3 nt3 e8 e7 nl
          rintro m σ H9 ⟨ah, tk, t, rfl, e9, hl, ht, nt, ntl, htk, b1, b2, hroll, rfl⟩
          walk_at "go"
          rename_i H10 e10
          refine ite2 (fun d => ?_) (fun d => ?_)
          · have d := of_bnot d
            refine ⟨_, rfl, 1, rfl, l, _, -1, _, rfl, rfl, by walk_at "seq", atI_lastI d, ?_⟩
            walk_at "go"
            refine ⟨t, _, _, _, rfl, rfl, by walk_at "seq", atI_lastI htk, ?_⟩
            walk_at "go"
            rw [rev_last d, rollBack] at hroll
            refine ite2 (fun c3 => ?_) (fun c3 => ?_)
            · have c3 : ah.getLastD 0 + L = tk.getLastD 0 := V.int.inj (of_decide_eq_true c3)
              rw [if_pos c3] at hroll
              refine ⟨fun σ2 H' => ∃ (t' : Addr), σ2 = [some (.ref a), some (.ref t'), some (.int L), some (.ref g), some (.int (k : Int)), some (.ref l)] ∧ Ex H6 H' ∧ LI H' l ah.dropLast ∧ LI H' t' (ah.getLastD 0 :: tk.dropLast) ∧ H t' = none ∧ t' ≠ l, ?_, ?_⟩
              · rintro σ2 H' ⟨t', rfl, e', hl', ht', nt', nl'⟩
                have hp : 0 < tk.length := List.length_pos_iff.mpr htk
                have hq : 0 < ah.length := List.length_pos_iff.mpr d
                exact ⟨ah.dropLast.length, by rw [List.length_dropLast]; omega, _, _, t', rfl, e', hl', ht', nt', nl', List.cons_ne_nil _ _, by rw [List.length_dropLast]; omega, by rw [List.length_cons, List.length_dropLast]; omega, hroll, rfl⟩
              · have hl10 := e10 _ _ hl
                have ht10 := e10 _ _ ht
                have hget : (ah.map V.int)[(ah.map V.int).length - 1]? = some (.int (ah.getLastD 0)) := by
                  rw [← List.getLast?_eq_getElem?, List.getLast?_map, List.getLastD_eq_getLast?, List.getLast?_eq_some_getLast d]
                  rfl
                refine ⟨_, rfl, .inl ⟨rfl, _, .of hl10⟩, l, _, _, rfl, rfl, hl10, hget, ?_⟩
                rw [← List.map_dropLast]
                have e11 : Ex H6 (upd H10 l (.lst (ah.dropLast.map V.int))) := Ex.mut (e9.trans e10) n6
                have hl11 : LI (upd H10 l (.lst (ah.dropLast.map V.int))) l ah.dropLast := upd_same
                have ht11 : LI (upd H10 l (.lst (ah.dropLast.map V.int))) t tk := by rw [LI, upd_ne ntl]; exact ht10
                generalize upd H10 l (.lst (ah.dropLast.map V.int)) = H11 at e11 hl11 ht11 ⊢
                walk_at "go"
                refine nL_intro fun u H12 nu e12 hu => ?_
                walk_at "go"
                refine nL_intro fun u2 H13 nu2 e13 hu2 => ?_
                rw [cut_but, ← List.map_dropLast] at hu2
                refine ⟨u, u2, [.int (ah.getLastD 0)], _, rfl, rfl, e13 _ _ hu, hu2, ?_, ?_⟩
                · rw [List.length_map, List.length_dropLast]
                  exact Nat.le_trans (show 1 + (tk.length - 1) ≤ 100001 by omega) (by decide)
                refine nL_intro fun u3 H14 nu3 e14 hu3 => ?_
                refine ⟨u3, rfl, by walk_at "ex", by walk_at "seq", hu3, ?_, ?_⟩
                · exact (e60.trans (e11.trans (e12.trans e13))).back nu3
                · exact fun z => by
                    rw [z, e13 _ _ (e12 _ _ hl11)] at nu3
                    cases nu3
            · have c3 : ¬ ah.getLastD 0 + L = tk.getLastD 0 := fun z => c3 (decide_eq_true (congrArg V.int z))
              rw [if_neg c3] at hroll
              walk_at "go"
              refine nT_intro fun p H15 np e15 hp => ?_
              rw [← hroll, ← rev_last d, List.reverse_reverse] at q
              refine q _ _ (by walk_at "ex") (FormNew.mk3 (H1 := H6) e60 (e60.back n6) nt np (Ne.symm ntl) (e9.trans e10) e15 (e10 _ _ hl) (e10 _ _ ht) hp)
          · have d := not_bnot d
            subst d
            rw [List.reverse_nil, rollBack] at hroll
            walk_at "go"
            refine nT_intro fun p H15 np e15 hp => ?_
            rw [← hroll] at q
            refine q _ _ (by walk_at "ex") (FormNew.mk3 (H1 := H6) e60 (e60.back n6) nt np (Ne.symm ntl) (e9.trans e10) e15 (e10 _ _ hl) (e10 _ _ ht) hp)


theorem sc_later : FnScope ["inner", "more", "front", "ticks", "length", "one"] ["inner", "more"] (defScope s_later) := ⟨rfl, rfl, rfl, by decide +kernel, rfl, by decide +kernel, by decide +kernel⟩
def spLater : Sp := fun vs H Q _ => ∃ (v : V) (f : Form) (m : Int), vs = [v, .int m] ∧ FormAt H v f ∧ f.front.length ≤ 100000 ∧ f.round.length ≤ 100000 ∧ ∀ v' H', Ex H H' → FormNew H H' v' (laterF f m) → Q v' H'
theorem ok_later {f : Addr} {fd : FuncData} (F : Fun K "later" "later" s_later f fd) (B : Blt mg) : FnOk P w K mg base CX0 1 f fd ["inner", "more"] spLater := by
  have nd := sc_later.nd
  refine F.ok sc_later (fun vs H Q E h => ?_) (fun cdv A outer s H vs Q E hr h => ?_)
  · obtain ⟨v, f, m, rfl, _⟩ := h
    rfl
  · obtain ⟨v, f, m, rfl, ⟨p, a, b, rfl, ht, ha, hb⟩, l1, l2, q⟩ := h
    refine ⟨_, 
    (pss_cons (ps_asg (pv 0) (pg_tup rfl (pgs_cons (pg_name (i := 2) nd rfl (Or.inl rfl)) (pgs_cons (pg_name (i := 3) nd rfl (Or.inl rfl)) (pgs_cons (pg_name (i := 4) nd rfl (Or.inl rfl)) pgs_nil)))))
    (pss_one (ps_ret (pe_tupN (pa_cons (pe_lc (own := [("one", 5)]) (g := gName 5) rfl nd (pi_list (pv 2)) (blkOk_by (N := ["inner", "more", "front", "ticks", "length", "one"]) (sc := defScope s_later) (by decide +kernel)) (fun _ _ _ _ _ => pg_name (i := 5) nd rfl (Or.inl rfl)) (fun _ _ _ _ _ => pts_nil) (fun _ _ _ _ _ => (pe_op op_add (pv 5) (pv 1)))) (pa_cons (pe_lc (own := [("one", 5)]) (g := gName 5) rfl nd (pi_list (pv 3)) (blkOk_by (N := ["inner", "more", "front", "ticks", "length", "one"]) (sc := defScope s_later) (by decide +kernel)) (fun _ _ _ _ _ => pg_name (i := 5) nd rfl (Or.inl rfl)) (fun _ _ _ _ _ => pts_nil) (fun _ _ _ _ _ => (pe_op op_add (pv 5) (pv 1)))) (pa_cons (pv 4) pa_nil))))))), ?_⟩
    try dsimp only [cxOf, Cx.nox, Cx.wish]
    walk_at "go"
    have hA : ∀ l : List Int, ∀ (i : Nat) (x : V), (l.map V.int)[i]? = some x → ∃ y, l[i]? = some y ∧ x = V.int y := fun l i x h => getMapI h
    refine lc_all ((f.front.map (· + m)).map V.int) (by simp) (Goes.list (.of ha)) (by rw [List.length_map]; omega) ?_ ?_
    · rintro i x H' hi e hx R hR
      obtain ⟨y, hy, rfl⟩ := hA _ _ _ hx
      refine ⟨rfl, ?_⟩
      walk_at "go"
      exact hR _ _ (by rw [List.getElem?_map, List.getElem?_map, hy]; rfl) (Ex.refl _)
    intro x H1 nx e1 hx
    walk_at "go"
    have hb1 : SqL K H1 b (f.round.map V.int) := by walk_at "seq"
    refine lc_all ((f.round.map (· + m)).map V.int) (by simp) (Goes.list hb1) (by rw [List.length_map]; omega) ?_ ?_
    · rintro i x H' hi e hx R hR
      obtain ⟨y, hy, rfl⟩ := hA _ _ _ hx
      refine ⟨rfl, ?_⟩
      walk_at "go"
      exact hR _ _ (by rw [List.getElem?_map, List.getElem?_map, hy]; rfl) (Ex.refl _)
    intro y H2 ny e2 hy
    walk_at "go"
    refine nT_intro fun p2 H3 np e3 hp => ?_
    exact q _ _ (by walk_at "ex") (FormNew.mk3 (H1 := H1) e1 nx (e1.back ny) np (ne_of_none hx ny) e2 e3 (e2 _ _ hx) hy hp)
theorem sc_gated : FnScope ["inner", "signs", "front", "ticks", "length", "kept", "number", "one", "many", "wide", "found"] ["inner", "signs"] (defScope s_gated) := ⟨rfl, rfl, rfl, by decide +kernel, rfl, by decide +kernel, by decide +kernel⟩
theorem tickAt_round {f : Form} {n : Int} (h : f.round ≠ []) (h0 : (f.front.length : Int) ≤ n) : tickAt f n = some (tickZ f n) := by
  unfold tickZ tickAt
  rw [if_neg (by omega), if_neg h]
  rfl
theorem rangeZ_succ (lo : Int) (i : Nat) : rangeZ lo (i + 1) = rangeZ lo i ++ [lo + (i : Int)] := by
  unfold rangeZ
  rw [List.range_succ, List.map_append]
  rfl
theorem keptFrom_outs (bits : List Bool) : ∀ (l : List Int) (k : Nat), outs (fun i => (l[i]?).bind fun x => if bitAt bits ((k + i : Nat) : Int) then some (V.int x) else none) l.length = (keptFrom bits k l).map V.int
  | [], _ => rfl
  | x :: r, k => by
    have ih := keptFrom_outs bits r (k + 1)
    unfold outs at ih ⊢
    rw [List.length_cons, List.range_succ_eq_map, List.filterMap_cons, List.filterMap_map]
    have e : (fun i => ((x :: r)[i]?).bind fun x => if bitAt bits ((k + i : Nat) : Int) then some (V.int x) else none) ∘ Nat.succ = fun i => (r[i]?).bind fun x => if bitAt bits ((k + 1 + i : Nat) : Int) then some (V.int x) else none := by
      funext i
      show (((x :: r)[i + 1]?).bind fun x => if bitAt bits ((k + (i + 1) : Nat) : Int) then some (V.int x) else none) = _
      rw [List.getElem?_cons_succ, show k + (i + 1) = k + 1 + i by omega]
    rw [e, ih]
    rw [keptFrom]
    cases hb : bitAt bits (k : Int) <;> simp [hb]
abbrev Small := Few
def spGated (C : Addr) : Sp := fun vs H Q E => ∃ (v : V) (f : Form) (bits : List Bool), vs = [v, .str (bitsStr bits)] ∧ FormAt H v f ∧ 1 ≤ bits.length ∧ bits.length ≤ 12 ∧ Small f ∧
  (∀ g, gated f bits = some g → ∀ v' H', Ex H H' → FormNew H H' v' g → Q v' H') ∧ (gated f bits = none → ∀ H', Ex H H' → E (.ref C) none H')
theorem ok_gated {f C : Addr} {fd : FuncData} (F : Fun K "gated" "gated" s_gated f fd) (B : Blt mg) (c_multiple : Dn P w K mg base 2 "multiple" spMultiple) (c_need_short : Dn P w K mg base 1 "need_short" (spShort C))
    (c_tick_at : Dn P w K mg base 1 "tick_at" spTick) (c_settled : Dn P w K mg base 2 "settled" (spSettled K)) : FnOk P w K mg base (L2.CX P w) 3 f fd ["inner", "signs"] (spGated C) := by
  have nd := sc_gated.nd
  refine F.okX sc_gated (fun vs H Q E h => ?_) (fun cdv A outer s H vs Q E hr h => ?_)
  · obtain ⟨v, f, bits, rfl, _⟩ := h
    rfl
  · obtain ⟨v, f, bits, rfl, ⟨p, a, b, rfl, ht, ha, hb⟩, b1, b2, hs, q1, q2⟩ := h
    refine ⟨_, 
    (pss_cons (ps_asg (pv 0) (pg_tup rfl (pgs_cons (pg_name (i := 2) nd rfl (Or.inl rfl)) (pgs_cons (pg_name (i := 3) nd rfl (Or.inl rfl)) (pgs_cons (pg_name (i := 4) nd rfl (Or.inl rfl)) pgs_nil)))))
    (pss_cons (ps_setLc (i := 5) (own := [("number", 6), ("one", 7)]) (g := gTup K 2 (gCons (gName 6) (gCons (gName 7) gNil))) rfl nd rfl rfl (sw_true rfl rfl rfl (by decide +kernel)) (pi_enum (by rfl) B.enumerate (pa_cons (pv 2) pa_nil)) (blkOk_by (N := ["inner", "signs", "front", "ticks", "length", "kept", "number", "one", "many", "wide", "found"]) (sc := defScope s_gated) (by decide +kernel)) (fun _ _ _ _ _ => (pg_tup rfl (pgs_cons (pg_name (i := 6) nd rfl (Or.inl rfl)) (pgs_cons (pg_name (i := 7) nd rfl (Or.inl rfl)) pgs_nil)))) (fun _ _ _ _ _ => (pts_one (pt_cmpR op_eq (pe_ix ix_str (pv 1) (pe_op op_mod (pv 6) (pe_callB call_len_str (by rfl) B.len PySem.boot_len (pa_cons (pv 1) pa_nil))) (fun _ _ => rfl)) pe_str (nomark _)))) (fun _ _ _ _ _ => (pv 7)))
    (pss_cons (ps_if (pt_cmp (eqNil (K := K) rfl hr.units (pv 3))) (pss_one (ps_ret (pe_tupN (pa_cons (pv 5) (pa_cons (pe_lstN pa_nil) (pa_cons pe_int pa_nil)))))) pss_nil)
    (pss_cons (ps_set (i := 8) nd rfl (Or.inl rfl) (pe_d c_multiple hr (by decide) (passes_call (takes_of rfl rfl rfl rfl) fun _ _ _ _ h => h) (by rfl) (pa_cons (pe_callB (lenK (K := K) rfl) (by rfl) B.len PySem.boot_len (pa_cons (pv 3) pa_nil)) (pa_cons (pe_callB call_len_str (by rfl) B.len PySem.boot_len (pa_cons (pv 1) pa_nil)) pa_nil))))
    (pss_cons (ps_set (i := 9) nd rfl (Or.inl rfl) (pe_op op_mul (pv 4) (pe_op op_fdiv (pv 8) (pe_callB (lenK (K := K) rfl) (by rfl) B.len PySem.boot_len (pa_cons (pv 3) pa_nil)))))
    (pss_cons (ps_expr (pe_d c_need_short hr (by decide) (passes_call (takes_of rfl rfl rfl rfl) fun _ _ _ _ h => h) (by rfl) (pa_cons (pv 9) pa_nil)))
    (pss_cons (ps_set (i := 10) nd rfl (Or.inl rfl) (pe_lstN pa_nil))
    (pss_cons (ps_for (passes_of rfl) rfl (pi_range2 (by rfl) B.range (pa_cons (pe_callB (lenK (K := K) rfl) (by rfl) B.len PySem.boot_len (pa_cons (pv 2) pa_nil)) (pa_cons (pe_op op_add (pe_callB (lenK (K := K) rfl) (by rfl) B.len PySem.boot_len (pa_cons (pv 2) pa_nil)) (pv 8)) pa_nil))) (pg_name (i := 6) nd rfl (Or.inl rfl)) (pss_one (ps_if (pt_cmpR op_eq (pe_ix ix_str (pv 1) (pe_op op_mod (pv 6) (pe_callB call_len_str (by rfl) B.len PySem.boot_len (pa_cons (pv 1) pa_nil))) (fun _ _ => rfl)) pe_str (nomark _)) (pss_one (ps_expr (pe_bm PySem.F.plainAttrs_list PySem.F.slot_list_append PySem.F.type_list_append mt_append (pv 10) (pa_cons (pe_d c_tick_at hr (by decide) (passes_call (takes_of rfl rfl rfl rfl) fun _ _ _ _ h => h) (by rfl) (pa_cons (pv 0) (pa_cons (pv 6) pa_nil))) pa_nil)))) pss_nil)))
    (pss_one (ps_ret (pe_d c_settled hr (by decide) (passes_call (takes_of rfl rfl rfl rfl) fun _ _ _ _ h => h) (by rfl) (pa_cons (pv 5) (pa_cons (pv 10) (pa_cons (pv 9) pa_nil)))))))))))))), ?_⟩
    try dsimp only [cxOf, Cx.nox, Cx.wish]
    walk_at "go"
    have hA : ∀ l : List Int, ∀ (i : Nat) (x : V), (l.map V.int)[i]? = some x → ∃ y, l[i]? = some y ∧ x = V.int y := fun l i x h => getMapI h
    have hf : FormAt H (.ref p) f := ⟨p, a, b, rfl, ht, ha, hb⟩
    have s1 := hs.front
    have s2 := hs.round
    have s3 := hs.lo
    have s4 := hs.hi
    have hbl : (bitsStr bits).length = bits.length := bitsStr_len bits
    have hlen : (bitsStr bits).length ≤ sizeLine := by rw [hbl]; exact Nat.le_trans b2 (by decide)
    have hbit : ∀ n : Int, 0 ≤ n → atI (bitsStr bits).cps.toList (n % ((bitsStr bits).length : Int)) = some (bitC (bitAt bits n)) := fun n hn => by
      rw [hbl]
      exact bits_at (Int.emod_nonneg _ (by omega)) (Int.emod_lt_of_pos _ (by omega))
    refine lc_out (fun i => (f.front[i]?).bind fun x => if bitAt bits ((0 + i : Nat) : Int) then some (V.int x) else none) (Goes.enum (.of ha)) (by rw [List.length_map]; omega) ?_ ?_
    · rintro i x H' hi e ⟨T, y, rfl, hy, hT⟩ R hR
      obtain ⟨z, hz, rfl⟩ := hA _ _ _ hy
      refine ⟨T, _, rfl, .of hT, rfl, _, _, rfl, _, _, rfl, rfl, rfl, ?_⟩
      walk_at "go"
      refine ⟨_, _, _, rfl, rfl, hlen, hbit _ (by omega), rfl, _, rfl, ?_⟩
      rw [bit_one]
      refine ite2 (fun c => ?_) (fun c => ?_)
      · walk_at "go"
        exact hR _ _ (by rw [hz]; show (if _ then _ else _) = _; rw [if_pos (by rw [Nat.zero_add]; exact c)]) (by walk_at "ex")
      · exact hR _ _ (by rw [hz]; show (if _ then _ else _) = _; rw [if_neg (by rw [Nat.zero_add]; exact c)]) (by walk_at "ex")
    rw [List.length_map, keptFrom_outs]
    intro kp H1 nk e1 hk
    walk_at "go"
    rename_i H2 e2
    unfold gated at q1 q2
    refine ite2 (fun c => ?_) (fun c => ?_)
    · have c := of_decide_eq_true c
      rw [if_pos c] at q1
      walk_at "go"
      refine nL_intro fun y H3 ny e3 hy => ?_
      walk_at "go"
      refine nT_intro fun p2 H4 np e4 hp => ?_
      exact q1 _ rfl _ _ (by walk_at "ex") (FormNew.mk3 (H1 := H1) e1 nk (by walk_at "fresh") np (ne_of_none (e2 _ _ hk) ny) (e2.trans e3) e4 (e3 _ _ (e2 _ _ hk)) hy hp)
    · have c := not_dec c
      rw [if_neg c] at q1 q2
      dsimp only at q1 q2
      have hpos : 0 < f.round.length := List.length_pos_iff.mpr c
      walk_at "go"
      rw [List.length_map, hbl]
      have hm1 : 0 < lcmZ (f.round.length : Int) (bits.length : Int) ∧ lcmZ (f.round.length : Int) (bits.length : Int) ≤ 72000 := by
        have g1 := gcdZ_pos (x := (f.round.length : Int)) (y := (bits.length : Int)) (by omega)
        have g2 : gcdZ (f.round.length : Int) (bits.length : Int) ≤ f.round.length := by
          unfold gcdZ
          exact Int.le_of_dvd (by omega) (Int.gcd_dvd_left ..)
        unfold lcmZ
        generalize gcdZ (f.round.length : Int) (bits.length : Int) = g at g1 g2
        have d1 : 0 < (f.round.length : Int) / g := by have := Int.le_ediv_of_mul_le g1 (show 1 * g ≤ (f.round.length : Int) by omega); omega
        have d2 : (f.round.length : Int) / g ≤ 6000 := Int.le_trans (Int.ediv_le_self _ (by omega)) (by omega)
        refine ⟨Int.mul_pos d1 (by omega), ?_⟩
        exact Int.le_trans (Int.mul_le_mul d2 (show (bits.length : Int) ≤ 12 by omega) (by omega) (by omega)) (by omega)
      generalize lcmZ (f.round.length : Int) (bits.length : Int) = many at hm1 q1 q2 ⊢
      obtain ⟨hm1, hm2⟩ := hm1
      refine ⟨fun hw => ?_, fun hw => q2 (by rw [if_pos hw]) _ (by walk_at "ex")⟩
      rw [if_neg (by omega)] at q1
      walk_at "go"
      refine nL_intro fun fo H3 nf e3 hfo => ?_
      have e02 : Ex H H2 := by walk_at "ex"
      have hk2 := e2 _ _ hk
      have nkf : kp ≠ fo := ne_of_none hk2 nf
      walk_at "go"
      rw [List.length_map, show ((f.front.length : Int) + many - (f.front.length : Int)).toNat = many.toNat by omega]
      refine for_range (fun i σ H' => ∃ y : Option V, σ = [some (.ref p), some (.str (bitsStr bits)), some (.ref a), some (.ref b), some (.int f.len), some (.ref kp), y, none, some (.int many), some (.int (f.len * (many / (f.round.length : Int)))), some (.ref fo)] ∧
          Ex H2 H' ∧ LI H' fo (((rangeZ f.front.length i).filter (bitAt bits)).map (tickZ f)))
        ⟨_, rfl, e3, hfo⟩ ?_ ?_
      · rintro i σ H4 hi ⟨y, rfl, e4, hf4⟩
        walk_at "go"
        refine ⟨_, _, _, rfl, rfl, hlen, hbit _ (by omega), rfl, _, rfl, ?_⟩
        rw [bit_one]
        have hfl : (((rangeZ f.front.length i).filter (bitAt bits)).map (tickZ f)).length ≤ i := by
          rw [List.length_map]
          refine Nat.le_trans (List.length_filter_le _ _) ?_
          unfold rangeZ
          rw [List.length_map, List.length_range]
          exact Nat.le_refl _
        refine ite2 (fun c2 => ?_) (fun c2 => ?_)
        · refine ⟨_, rfl, .inl ⟨rfl, _, .of hf4⟩, ?_⟩
          walk_at "go"
          refine ⟨.ref p, f, _, rfl, by walk_at "seq", by omega, by omega, by omega, by omega, fun H5 e5 => ?_⟩
          refine ⟨fo, _, _, rfl, rfl, e5 _ _ hf4, ?_, ?_⟩
          · rw [List.length_map]
            exact Nat.lt_of_le_of_lt hfl (Nat.lt_of_lt_of_le (show i < 100000 by omega) (by decide))
          refine ⟨_, rfl, Ex.mut (e4.trans e5) nf, ?_⟩
          rw [LI, upd_same, rangeZ_succ, List.filter_append, List.map_append, List.map_append, tickAt_round c (by omega)]
          simp [c2, optV]
        · refine ⟨_, rfl, e4, ?_⟩
          rw [rangeZ_succ, List.filter_append]
          simpa [c2] using hf4
      · rintro σ H4 ⟨y, rfl, e4, hf4⟩
        refine ⟨_, rfl, _, rfl, _, rfl, ?_⟩
        refine ⟨kp, fo, _, _, _, rfl, .of (e4 _ _ hk2), .of hf4, ?_, ?_, ?_⟩
        · refine Nat.le_trans ?_ (show f.front.length ≤ 100000 by omega)
          have := outs_len (fun i => (f.front[i]?).bind fun x => if bitAt bits ((0 + i : Nat) : Int) then some (V.int x) else none) f.front.length
          rw [keptFrom_outs, List.length_map] at this
          exact this
        · rw [List.length_map]
          refine Nat.le_trans (List.length_filter_le _ _) ?_
          unfold rangeZ
          rw [List.length_map, List.length_range]
          omega
        · intro v' H5 e5 hn
          exact q1 _ rfl v' H5 (by walk_at "ex") (hn.from (e02.trans e4))


theorem sc_is_whole : FnScope ["thing", "least", "most"] ["thing", "least", "most"] (defScope s_is_whole) := ⟨rfl, rfl, rfl, by decide +kernel, rfl, by decide +kernel, by decide +kernel⟩
def spWhole (K : PySem.W.Frag) : Sp := fun vs H Q _ => ∃ (v : V) (d : PyData) (lo hi : Int), vs = [v, .int lo, .int hi] ∧ Dp K H v d ∧ Q (.bl (isWhole lo hi d)) H
theorem ok_is_whole {f : Addr} {fd : FuncData} (F : Fun K "is_whole" "is_whole" s_is_whole f fd) (B : Blt mg) : FnOk P w K mg base CX0 1 f fd ["thing", "least", "most"] (spWhole K) := by
  have nd := sc_is_whole.nd
  refine F.ok sc_is_whole (fun vs H Q E h => ?_) (fun cdv A outer s H vs Q E hr h => ?_)
  · obtain ⟨v, d, lo, hi, rfl, _⟩ := h
    rfl
  · obtain ⟨v, d, lo, hi, rfl, hd, q⟩ := h
    refine ⟨_, 
    (pss_one (ps_ret (pe_and (pe_callB (isiD (K := K) rfl) (by rfl) B.isinstance bt_isinstance (pa_cons (pv 0) (pa_cons (pe_bltn (v := .ty "int") (u := Value.type "int") (by rfl) B.int bt_int rfl) pa_nil))) (pe_and (pe_not (pe_callB (isiD (K := K) rfl) (by rfl) B.isinstance bt_isinstance (pa_cons (pv 0) (pa_cons (pe_bltn (v := .ty "bool") (u := Value.type "bool") (by rfl) B.bool bt_bool rfl) pa_nil)))) (pe_one (pe_chain op_le op_le (pv 1) (pv 0) (pv 2))))))), ?_⟩
    try dsimp only [cxOf, Cx.nox, Cx.wish]
    cases d with
    | int i =>
      cases hd
      walk_at "go"
      simp only [isA_tab]
      walk_at "go"
      have q : Q (.bl (decide (lo ≤ i) && decide (i ≤ hi))) H := q
      refine ite2 (fun c => ?_) (fun c => ?_)
      · walk_at "go"
        rw [c, Bool.true_and] at q
        exact q
      · rw [Bool.eq_false_iff.mpr c, Bool.false_and] at q
        exact q
    | bool b =>
      walk_at "go"
      simp only [isA_tab]
      walk_at "go"
      exact q
    | dict _ => cases hd
    | _ =>
      walk_at "go"
      simp only [isA_tab]
      exact q
theorem sc_are_signs : FnScope ["thing", "sign"] ["thing"] (defScope s_are_signs) := ⟨rfl, rfl, rfl, by decide +kernel, rfl, by decide +kernel, by decide +kernel⟩
def textSmall : PyData → Bool
  | .str s => decide (s.length ≤ 1000000) && PyData.strOk s
  | _ => true
theorem inV_sign (c : Nat) : inV (V.str ⟨#[c]⟩) [.str "0", .str "1"] = signOk c := by
  unfold inV signOk
  have h0 : eqV (.str "0") (V.str ⟨#[c]⟩) = (c == 48) := by
    show ((Str.ofString "0" == (⟨#[c]⟩ : Str)) : Bool) = _
    rw [show Str.ofString "0" = (⟨#[48]⟩ : Str) by decide +kernel]
    by_cases h : c = 48
    · subst h; decide
    · rw [beq_eq_false_iff_ne.mpr h, beq_eq_false_iff_ne]
      intro z
      injection z with z
      simp at z
      exact h z.symm
  have h1 : eqV (.str "1") (V.str ⟨#[c]⟩) = (c == 49) := by
    show ((Str.ofString "1" == (⟨#[c]⟩ : Str)) : Bool) = _
    rw [show Str.ofString "1" = (⟨#[49]⟩ : Str) by decide +kernel]
    by_cases h : c = 49
    · subst h; decide
    · rw [beq_eq_false_iff_ne.mpr h, beq_eq_false_iff_ne]
      intro z
      injection z with z
      simp at z
      exact h z.symm
  simp only [List.any_cons, List.any_nil, Bool.or_false, h0, h1]
theorem dpAll_chars {K : PySem.W.Frag} {H : Hp} : ∀ l : List Nat, DpAll K H (l.map fun c => V.str ⟨#[c]⟩) (l.map fun c => PyData.str ⟨#[c]⟩)
  | [] => .nil
  | c :: r => .cons (.str _) (dpAll_chars r)
theorem shaped_chars {l : List Nat} (h : ∀ c ∈ l, c < 0x110000) : SeqAt.shaped (.list (l.map fun c => PyData.str ⟨#[c]⟩)) = true := by
  refine (shaped_of fun d hd => ?_).1
  obtain ⟨c, hc, rfl⟩ := List.mem_map.mp hd
  refine ⟨?_, by simp [PyData.depth]⟩
  simp [PyData.canLay0, PyData.strOk, h c hc]
def spSigns (K : PySem.W.Frag) : Sp := fun vs H Q _ => ∃ (v : V) (d : PyData), vs = [v] ∧ Dp K H v d ∧ textSmall d = true ∧ ∀ H', Ex H H' → Q (.bl (areSigns d)) H'
theorem ok_are_signs {f : Addr} {fd : FuncData} (F : Fun K "are_signs" "are_signs" s_are_signs f fd) (B : Blt mg) {rS : Addr} (g_SIGNS : ∃ u, mg "SIGNS" = some u ∧ RelV (.ref rS) u) (q_SIGNS : ∀ H : Hp, SqT K H rS [.str "0", .str "1"])
    (g_MOST_DIVIDED : ∃ u, mg "MOST_DIVIDED" = some u ∧ RelV (.int 12) u) : FnOk P w K mg base CX0 1 f fd ["thing"] (spSigns K) := by
  have nd := sc_are_signs.nd
  refine F.ok sc_are_signs (fun vs H Q E h => ?_) (fun cdv A outer s H vs Q E hr h => ?_)
  · obtain ⟨v, d, rfl, _⟩ := h
    rfl
  · obtain ⟨v, d, rfl, hd, hz, q⟩ := h
    refine ⟨_, 
    (pss_cons (ps_if (PW.pt (pw_or (pt_not (pt_val (pe_callB (isiD (K := K) rfl) (by rfl) B.isinstance bt_isinstance (pa_cons (pv 0) (pa_cons (pe_bltn (v := .ty "str") (u := Value.type "str") (by rfl) B.str bt_str rfl) pa_nil))))) (pw_or1 (pt_not (pt_chain op_le op_le pe_int (pe_callB call_len_str (by rfl) B.len PySem.boot_len (pa_cons (pv 0) pa_nil)) (pe_gl rfl g_MOST_DIVIDED)))))) (pss_one (ps_ret pe_bl)) pss_nil)
    (pss_one (ps_ret (pe_cmp (eqNilD (K := K) rfl hr.units (pe_lc (own := [("sign", 1)]) (g := gName 1) rfl nd (pi_str (pv 0)) (blkOk_by (N := ["thing", "sign"]) (sc := defScope s_are_signs) (by decide +kernel)) (fun _ _ _ _ _ => pg_name (i := 1) nd rfl (Or.inl rfl)) (fun _ _ _ _ _ => (pts_one (pt_cmpR (niK (K := K) rfl) (pv 1) (pe_gl rfl g_SIGNS) (by rfl)))) (fun _ _ _ _ _ => (pv 1)))))))), ?_⟩
    try dsimp only [cxOf, Cx.nox, Cx.wish]
    cases d with
    | str x =>
      cases hd
      walk_at "go"
      simp only [isA_tab]
      have hz : (decide (x.length ≤ 1000000) && PyData.strOk x) = true := hz
      rw [Bool.and_eq_true] at hz
      obtain ⟨hz, hk⟩ := hz
      have hz : x.length ≤ 1000000 := of_decide_eq_true hz
      have q : ∀ H', Ex H H' → Q (.bl (decide (1 ≤ x.length) && decide (x.length ≤ 12) && x.cps.toList.all signOk)) H' := q
      have hs2 : x.length ≤ sizeLine := Nat.le_trans hz (by decide)
      refine ⟨hs2, ?_⟩
      walk_at "go"
      refine ite2 (fun c => ?_) (fun c => ?_)
      · walk_at "go"
        refine ite2 (fun c2 => ?_) (fun c2 => ?_)
        · have c2 := of_bnot c2
          rw [decide_eq_false (show ¬ x.length ≤ 12 by omega), Bool.and_false, Bool.false_and] at q
          walk_at "go"
          exact q _ (by walk_at "ex")
        · have c := of_decide_eq_true c
          have c2 := not_bnot c2
          rw [decide_eq_true (show 1 ≤ x.length by omega), decide_eq_true (show x.length ≤ 12 by omega), Bool.and_true, Bool.true_and] at q
          walk_at "go"
          refine lc_out (fun i => (x.cps[i]?).bind fun c => if (!signOk c) = true then some (.str ⟨#[c]⟩) else none) Goes.str (by show x.length ≤ 1000000; omega) ?_ ?_
          · rintro i y H' hi e ⟨c, hc, rfl⟩ R hR
            refine ⟨rfl, ?_⟩
            walk_at "go"
            refine ⟨rS, _, rfl, .inr (q_SIGNS _), rfl, rfl, ?_⟩
            walk_at "go"
            rw [inV_sign]
            refine ite2 (fun c3 => ?_) (fun c3 => ?_)
            · walk_at "go"
              exact hR _ _ (by rw [hc]; exact if_pos c3) (by walk_at "ex")
            · exact hR _ _ (by rw [hc]; exact if_neg c3) (by walk_at "ex")
          intro p2 H2 np e2 hp
          rw [show x.cps.size = x.cps.toList.length by simp, outs_filter (p := fun c => !signOk c) (f := fun c => V.str ⟨#[c]⟩) (l := x.cps.toList) (fun i c hc => by
            have hc' : x.cps[i]? = some c := by rw [← hc]; simp
            show ((x.cps[i]?).bind _) = _
            rw [hc']
            rfl)] at hp
          refine ⟨_, _, rfl, .lst (.of hp) (dpAll_chars _), shaped_chars fun c hc => ?_, ?_⟩
          · have h1 := (List.mem_filter.mp hc).1
            have := (Array.all_eq_true_iff_forall_mem.mp hk) c (by simpa using h1)
            simpa using this
          walk_at "go"
          have ee : (List.map (fun c => PyData.str ⟨#[c]⟩) (List.filter (fun c => !signOk c) x.cps.toList)).isEmpty = x.cps.toList.all signOk := by
            generalize x.cps.toList = l
            induction l with
            | nil => rfl
            | cons c r ih =>
              cases h : signOk c <;> simp [h] at ih ⊢
              exact ih
          rw [ee]
          exact q _ (by walk_at "ex")
      · walk_at "go"
        have c := not_dec c
        rw [decide_eq_false (show ¬ 1 ≤ x.length by omega), Bool.false_and, Bool.false_and] at q
        exact q _ (by walk_at "ex")
    | dict _ => cases hd
    | _ =>
      walk_at "go"
      simp only [isA_tab]
      exact q _ (by walk_at "ex")
def InnerAt (K : PySem.W.Frag) (H0 H H' : Hp) (r : V) : Option (List PyData) → Prop
  | none => r = .non
  | some ds => ∃ p vs, r = .ref p ∧ H p = none ∧ H' p = some (.lst vs) ∧ DpAll K H0 vs ds
def dGood (d : PyData) : Bool := SeqAt.shaped d && headFlat d && (match d with | .tuple ds => ds.all textSmall | _ => true)
theorem sc_is_every : FnScope ["beat"] ["beat"] (defScope s_is_every) := ⟨rfl, rfl, rfl, by decide +kernel, rfl, by decide +kernel, by decide +kernel⟩
def spEvery (K : PySem.W.Frag) : Sp := fun vs H Q _ => ∃ (v : V) (ds : List PyData), vs = [v] ∧ Dp K H v (.tuple ds) ∧ 3 ≤ ds.length ∧ Q (.bl (isEvery ds)) H
theorem ok_is_every {f : Addr} {fd : FuncData} (F : Fun K "is_every" "is_every" s_is_every f fd) (g_MOST_DIVIDED : ∃ u, mg "MOST_DIVIDED" = some u ∧ RelV (.int 12) u) (c_is_whole : Dn P w K mg base 1 "is_whole" (spWhole K)) : FnOk P w K mg base CX0 2 f fd ["beat"] (spEvery K) := by
  have nd := sc_is_every.nd
  refine F.ok sc_is_every (fun vs H Q E h => ?_) (fun cdv A outer s H vs Q E hr h => ?_)
  · obtain ⟨v, ds, rfl, _⟩ := h
    rfl
  · obtain ⟨v, ds, rfl, hd, hl, q⟩ := h
    cases hd with
    | tup hs ha =>
    refine ⟨_, 
    (pss_one (ps_ret (pe_and (pe_d c_is_whole hr (by decide) passL (by rfl) (pa_cons (pe_ix (ixt (K := K) rfl) (pv 0) pe_int (fun _ _ => rfl)) (pa_cons pe_int (pa_cons (pe_gl rfl g_MOST_DIVIDED) pa_nil)))) (pe_one (pe_d c_is_whole hr (by decide) passL (by rfl) (pa_cons (pe_ix (ixt (K := K) rfl) (pv 0) pe_int (fun _ _ => rfl)) (pa_cons pe_int (pa_cons (pe_op op_sub (pe_ix (ixt (K := K) rfl) (pv 0) pe_int (fun _ _ => rfl)) pe_int) pa_nil)))))))), ?_⟩
    try dsimp only [cxOf, Cx.nox, Cx.wish]
    obtain ⟨v1, a1, d1⟩ := dpAll_atD ha 1 (by omega)
    obtain ⟨v2, a2, d2⟩ := dpAll_atD ha 2 (by omega)
    have q : Q (.bl (isWhole 1 12 (atD ds 1) && isWhole 0 (intD (atD ds 1) - 1) (atD ds 2))) H := q
    walk_at "go"
    refine ⟨_, _, _, _, rfl, rfl, hs, a1, ?_⟩
    walk_at "go"
    refine ⟨v1, _, _, _, rfl, d1, _, rfl, ?_⟩
    refine ite2 (fun c => ?_) (fun c => ?_)
    · rw [c, Bool.true_and] at q
      obtain ⟨i, hi⟩ : ∃ i, atD ds 1 = .int i := by
        cases hh : atD ds 1 with
        | int i => exact ⟨i, rfl⟩
        | _ => rw [hh] at c; cases c
      rw [hi] at d1 q
      cases d1
      walk_at "go"
      refine ⟨_, _, _, _, rfl, rfl, hs, a2, ?_⟩
      walk_at "go"
      refine ⟨_, _, _, _, rfl, rfl, hs, a1, ?_⟩
      walk_at "go"
      exact ⟨v2, _, _, _, rfl, d2, q⟩
    · rw [Bool.eq_false_iff.mpr c, Bool.false_and] at q
      exact q
theorem sc_inner_of : FnScope ["beat", "word"] ["beat"] (defScope s_inner_of) := ⟨rfl, rfl, rfl, by decide +kernel, rfl, by decide +kernel, by decide +kernel⟩
theorem tIfS_cut {tt : TT} {A B : TS} {D : Ends} {σ : L2.St} {H : Hp} (b : Bool) (h1 : ∀ Q' : Bool → Hp → Prop, (∀ H', Ex H H' → Q' b H') → tt σ H Q') (h2 : ∀ H', Ex H H' → if b = true then A D σ H' else B D σ H') : tIfS tt A B D σ H := h1 _ h2
theorem leafT {Q' : Bool → Hp → Prop} {b b' : Bool} {H H' : Hp} (hq : ∀ H', Ex H H' → Q' b H') (e : Ex H H') (h : b = b') : Q' b' H' := h ▸ hq _ e
def spInner (K : PySem.W.Frag) : Sp := fun vs H Q _ => ∃ (v : V) (d : PyData) (H0 : Hp), vs = [v] ∧ Ex H0 H ∧ Dp K H0 v d ∧ dGood d = true ∧ ∀ r H', Ex H H' → InnerAt K H0 H H' r (innerOf d) → Q r H'
theorem ok_inner_of {f : Addr} {fd : FuncData} (F : Fun K "inner_of" "inner_of" s_inner_of f fd) (B : Blt mg) {rO : Addr} (g_OF_TWO : ∃ u, mg "OF_TWO" = some u ∧ RelV (.ref rO) u) (q_OF_TWO : ∀ H : Hp, SqT K H rO [.str "either", .str "both", .str "but"])
    (g_MOST_LATER : ∃ u, mg "MOST_LATER" = some u ∧ RelV (.int 99) u) (g_MOST_LED : ∃ u, mg "MOST_LED" = some u ∧ RelV (.int 9999) u)
    (c_is_whole : Dn P w K mg base 1 "is_whole" (spWhole K)) (c_are_signs : Dn P w K mg base 1 "are_signs" (spSigns K)) (c_is_every : Dn P w K mg base 2 "is_every" (spEvery K)) : FnOk P w K mg base CX0 3 f fd ["beat"] (spInner K) := by
  have nd := sc_inner_of.nd
  refine F.ok sc_inner_of (fun vs H Q E h => ?_) (fun cdv A outer s H vs Q E hr h => ?_)
  · obtain ⟨v, ds, H0, rfl, _⟩ := h
    rfl
  · obtain ⟨v, d, H0, rfl, e0, hd', hg, q⟩ := h
    have hd := e0.dp hd'
    refine ⟨_, 
    (pss_cons (ps_if (PW.pt (pw_or (pt_not (pt_val (pe_callB (isiD (K := K) rfl) (by rfl) B.isinstance bt_isinstance (pa_cons (pv 0) (pa_cons (pe_bltn (v := .ty "tuple") (u := Value.type "tuple") (by rfl) B.tuple bt_tuple rfl) pa_nil))))) (pw_or1 (pt_cmpR (eqD (K := K) rfl hr.units) (pv 0) (pe_tupN pa_nil) (nomark _))))) (pss_one (ps_ret pe_non)) pss_nil)
    (pss_cons (ps_set (i := 1) nd rfl (Or.inl rfl) (pe_ix (ixt (K := K) rfl) (pv 0) pe_int (fun _ _ => rfl)))
    (pss_cons (ps_if (PW.pt (pw_and (pt_cmpR (eqD (K := K) rfl hr.units) (pv 1) pe_str (nomark _)) (pw_and1 (pt_cmpR op_eq (pe_callB (lenK (K := K) rfl) (by rfl) B.len PySem.boot_len (pa_cons (pv 0) pa_nil)) pe_int (nomark _))))) (pss_one (ps_ret (pe_lstN pa_nil))) pss_nil)
    (pss_cons (ps_if (PW.pt (pw_and (pt_cmpR (eqD (K := K) rfl hr.units) (pv 1) pe_str (nomark _)) (pw_and (pt_cmpR op_eq (pe_callB (lenK (K := K) rfl) (by rfl) B.len PySem.boot_len (pa_cons (pv 0) pa_nil)) pe_int (nomark _)) (pw_and1 (pt_val (pe_d c_is_every hr (by decide) passL (by rfl) (pa_cons (pv 0) pa_nil))))))) (pss_one (ps_ret (pe_lstN (pa_cons (pe_ix (ixt (K := K) rfl) (pv 0) pe_int (fun _ _ => rfl)) pa_nil)))) pss_nil)
    (pss_cons (ps_if (PW.pt (pw_and (pt_cmpR (eqD (K := K) rfl hr.units) (pv 1) pe_str (nomark _)) (pw_and (pt_cmpR op_eq (pe_callB (lenK (K := K) rfl) (by rfl) B.len PySem.boot_len (pa_cons (pv 0) pa_nil)) pe_int (nomark _)) (pw_and1 (pt_val (pe_d c_are_signs hr (by decide) passL (by rfl) (pa_cons (pe_ix (ixt (K := K) rfl) (pv 0) pe_int (fun _ _ => rfl)) pa_nil))))))) (pss_one (ps_ret (pe_lstN (pa_cons (pe_ix (ixt (K := K) rfl) (pv 0) pe_int (fun _ _ => rfl)) pa_nil)))) pss_nil)
    (pss_cons (ps_if (PW.pt (pw_and (pt_cmpR (eqD (K := K) rfl hr.units) (pv 1) pe_str (nomark _)) (pw_and (pt_cmpR op_eq (pe_callB (lenK (K := K) rfl) (by rfl) B.len PySem.boot_len (pa_cons (pv 0) pa_nil)) pe_int (nomark _)) (pw_and1 (pt_val (pe_d c_is_whole hr (by decide) passL (by rfl) (pa_cons (pe_ix (ixt (K := K) rfl) (pv 0) pe_int (fun _ _ => rfl)) (pa_cons pe_int (pa_cons (pe_gl rfl g_MOST_LATER) pa_nil))))))))) (pss_one (ps_ret (pe_lstN (pa_cons (pe_ix (ixt (K := K) rfl) (pv 0) pe_int (fun _ _ => rfl)) pa_nil)))) pss_nil)
    (pss_cons (ps_if (PW.pt (pw_and (pt_cmpR (inK (K := K) rfl) (pv 1) (pe_gl rfl g_OF_TWO) (by rfl)) (pw_and1 (pt_cmpR op_eq (pe_callB (lenK (K := K) rfl) (by rfl) B.len PySem.boot_len (pa_cons (pv 0) pa_nil)) pe_int (nomark _))))) (pss_one (ps_ret (pe_lstN (pa_cons (pe_ix (ixt (K := K) rfl) (pv 0) pe_int (fun _ _ => rfl)) (pa_cons (pe_ix (ixt (K := K) rfl) (pv 0) pe_int (fun _ _ => rfl)) pa_nil))))) pss_nil)
    (pss_cons (ps_if (PW.pt (pw_and (pt_cmpR (eqD (K := K) rfl hr.units) (pv 1) pe_str (nomark _)) (pw_and (pt_cmpR op_eq (pe_callB (lenK (K := K) rfl) (by rfl) B.len PySem.boot_len (pa_cons (pv 0) pa_nil)) pe_int (nomark _)) (pw_and (pt_val (pe_d c_is_whole hr (by decide) passL (by rfl) (pa_cons (pe_ix (ixt (K := K) rfl) (pv 0) pe_int (fun _ _ => rfl)) (pa_cons pe_int (pa_cons (pe_gl rfl g_MOST_LED) pa_nil))))) (pw_and1 (pt_val (pe_d c_is_whole hr (by decide) passL (by rfl) (pa_cons (pe_ix (ixt (K := K) rfl) (pv 0) pe_int (fun _ _ => rfl)) (pa_cons pe_int (pa_cons (pe_gl rfl g_MOST_LED) pa_nil)))))))))) (pss_one (ps_ret (pe_lstN (pa_cons (pe_ix (ixt (K := K) rfl) (pv 0) pe_int (fun _ _ => rfl)) (pa_cons (pe_ix (ixt (K := K) rfl) (pv 0) pe_int (fun _ _ => rfl)) pa_nil))))) pss_nil)
    (pss_one (ps_ret pe_non)))))))))), ?_⟩
    try dsimp only [cxOf, Cx.nox, Cx.wish]
    unfold dGood at hg
    rw [Bool.and_eq_true, Bool.and_eq_true] at hg
    obtain ⟨⟨hsh, hf⟩, hts⟩ := hg
    -- no tuple, or the empty one
    have no : innerOf d = none → Q .non H := fun e => q _ _ (Ex.refl _) (by rw [e]; rfl)
    refine tIfS_cut (match d with | .tuple ds => ds.isEmpty | _ => true) ?_ ?_
    · intro Q' hq
      cases d with
      | tuple ds =>
        walk_at "go"
        refine nT_intro fun p H2 np e2 hp => ?_
        walk_at "go"
        refine ⟨.tuple ds, .tuple [], e2.dp hd, .tup (.of hp) .nil, hsh, by decide +kernel, ?_⟩
        rw [eqv_nilT]
        walk_at "go"
        exact hq _ (by walk_at "ex")
      | dict _ => cases hd
      | _ =>
        walk_at "go"
        try simp only [isA_tab]
        walk_at "go"
        exact hq _ (by walk_at "ex")
    intro H1 e1
    cases d with
    | tuple ds =>
      refine ite2 (fun c => ?_) (fun c => ?_)
      · have c : ds.isEmpty = true := c
        walk_at "go"
        exact q _ _ e1 (by show InnerAt K H0 H H1 _ (innerT ds); unfold innerT; rw [if_pos c]; rfl)
      have hne : ¬ ds.isEmpty = true := c
      have hpos : 0 < ds.length := by
        cases ds with
        | nil => exact absurd rfl hne
        | cons _ _ => exact Nat.succ_pos _
      have q : ∀ r H', Ex H H' → InnerAt K H0 H H' r (innerT ds) → Q r H' := q
      unfold innerT at q
      rw [if_neg hne] at q
      have hd0 := hd
      cases hd' with
      | @tup a xs _ hs' ha' =>
      have hs := e0.sqT hs'
      have ha := e0.dpAll ha'
      have hlen := dpAll_len ha
      have L : ∀ k : Nat, decide (V.int (xs.length : Int) = V.int (k : Int)) = decide (ds.length = k) := fun k => by
        rw [hlen]
        refine decide_eq_decide.mpr ⟨fun z => ?_, fun z => by rw [z]⟩
        have z : ((ds.length : Nat) : Int) = (k : Int) := V.int.inj z
        omega
      obtain ⟨w0, a0, d0⟩ := dpAll_atD ha 0 hpos
      have sh : ∀ i, i < ds.length → SeqAt.shaped (atD ds i) = true := fun i hi => by
        refine shaped_of_mem hsh _ ?_
        unfold atD
        rw [List.getD_eq_getElem?_getD, List.getElem?_eq_getElem hi]
        exact List.getElem_mem _
      have hw : flatD (atD ds 0) = true := by
        cases ds with
        | nil => exact absurd rfl hne
        | cons _ _ => exact hf
      have hsm : ∀ i, i < ds.length → textSmall (atD ds i) = true := fun i hi => by
        refine List.all_eq_true.mp hts _ ?_
        unfold atD
        rw [List.getD_eq_getElem?_getD, List.getElem?_eq_getElem hi]
        exact List.getElem_mem _
      have sh0 := sh 0 hpos
      walk_at "go"
      refine ⟨_, _, _, _, rfl, rfl, e1.sqT hs, a0, ?_⟩
      have D0 : ∀ {H'}, Ex H H' → Dp K H' w0 (atD ds 0) := fun e => e.dp d0
      dsimp only [gName]
      -- the source
      refine tIfS_cut (isWord "source" (atD ds 0) && decide (ds.length = 1)) ?_ ?_
      · intro Q' hq
        walk_at "go"
        refine ⟨_, .str "source", D0 e1, .str _, sh0, by decide +kernel, ?_⟩
        walk_at "go"
        refine ite2 (fun c => ?_) (fun c => ?_)
        · have c : isWord "source" (atD ds 0) = true := c
          refine ⟨_, rfl, _, _, rfl, .inr (e1.sqT hs), ?_⟩
          walk_at "go"
          exact leafT hq (by walk_at "ex") (by rw [c, Bool.true_and]; exact (L 1).symm)
        · have c : ¬ isWord "source" (atD ds 0) = true := c
          exact leafT hq (by walk_at "ex") (by rw [Bool.eq_false_iff.mpr c, Bool.false_and])
      intro H2 e2
      refine ite2 (fun c => ?_) (fun c => ?_)
      · rw [if_pos c] at q
        walk_at "go"
        refine nL_intro fun p H3 np e3 hp => ?_
        exact q _ _ (by walk_at "ex") ⟨p, [], rfl, by walk_at "fresh", hp, .nil⟩
      rw [if_neg c] at q
      dsimp only [tNext]
      have ee2 : Ex H H2 := by walk_at "ex"
      refine tIfS_cut (isWord "every" (atD ds 0) && decide (ds.length = 4) && isEvery ds) ?_ ?_
      · intro Q' hq
        walk_at "go"
        refine ⟨_, .str "every", D0 ee2, .str _, sh0, by decide +kernel, ?_⟩
        walk_at "go"
        refine ite2 (fun c => ?_) (fun c => ?_)
        · have c : (isWord "every" (atD ds 0)) = true := c
          rw [c] at hq
          refine ⟨_, rfl, _, _, rfl, .inr (ee2.sqT hs), ?_⟩
          walk_at "go"
          refine ite2 (fun c2 => ?_) (fun c2 => ?_)
          · have c2 : decide (ds.length = 4) = true := (L 4) ▸ c2
            have hn : ds.length = 4 := of_decide_eq_true c2
            rw [c2] at hq
            walk_at "go"
            refine ⟨_, ds, rfl, ee2.dp hd0, by omega, _, rfl, ?_⟩
            exact leafT hq (by walk_at "ex") (by simp only [Bool.true_and])
          · have c2 : ¬ decide (ds.length = 4) = true := fun z => c2 ((L 4).symm ▸ z)
            exact leafT hq (by walk_at "ex") (by rw [Bool.eq_false_iff.mpr c2]; simp only [Bool.true_and, Bool.and_false, Bool.false_and])
        · have c : ¬ (isWord "every" (atD ds 0)) = true := c
          exact leafT hq (by walk_at "ex") (by rw [Bool.eq_false_iff.mpr c]; simp only [Bool.false_and])
      intro H3 e3
      refine ite2 (fun c => ?_) (fun c => ?_)
      · rw [if_pos c] at q
        have hn : ds.length = 4 := by
          simp only [Bool.and_eq_true, decide_eq_true_eq] at c
          omega
        have ex0 : Ex H H3 := by walk_at "ex"
        obtain ⟨v3, a3, d3⟩ := dpAll_atD ha' 3 (by omega)
        walk_at "go"
        refine ⟨_, _, _, _, rfl, rfl, ex0.sqT hs, a3, ?_⟩
        walk_at "go"
        refine nL_intro fun p H3 np e3 hp => ?_
        exact q _ _ (ex0.trans e3) ⟨p, _, rfl, ex0.back np, hp, .cons d3 (.nil)⟩
      rw [if_neg c] at q
      dsimp only [tNext]
      have ee3 : Ex H H3 := by walk_at "ex"
      refine tIfS_cut (isWord "gate" (atD ds 0) && decide (ds.length = 3) && areSigns (atD ds 1)) ?_ ?_
      · intro Q' hq
        walk_at "go"
        refine ⟨_, .str "gate", D0 ee3, .str _, sh0, by decide +kernel, ?_⟩
        walk_at "go"
        refine ite2 (fun c => ?_) (fun c => ?_)
        · have c : (isWord "gate" (atD ds 0)) = true := c
          rw [c] at hq
          refine ⟨_, rfl, _, _, rfl, .inr (ee3.sqT hs), ?_⟩
          walk_at "go"
          refine ite2 (fun c2 => ?_) (fun c2 => ?_)
          · have c2 : decide (ds.length = 3) = true := (L 3) ▸ c2
            have hn : ds.length = 3 := of_decide_eq_true c2
            rw [c2] at hq
            walk_at "go"
            obtain ⟨v1, a1, d1⟩ := dpAll_atD ha 1 (by omega)
            refine ⟨_, _, _, _, rfl, rfl, ee3.sqT hs, a1, ?_⟩
            walk_at "go"
            refine ⟨v1, _, rfl, ee3.dp d1, hsm 1 (by omega), fun H9 e9 => ⟨_, rfl, ?_⟩⟩
            exact leafT hq (by walk_at "ex") (by simp only [Bool.true_and])
          · have c2 : ¬ decide (ds.length = 3) = true := fun z => c2 ((L 3).symm ▸ z)
            exact leafT hq (by walk_at "ex") (by rw [Bool.eq_false_iff.mpr c2]; simp only [Bool.true_and, Bool.and_false, Bool.false_and])
        · have c : ¬ (isWord "gate" (atD ds 0)) = true := c
          exact leafT hq (by walk_at "ex") (by rw [Bool.eq_false_iff.mpr c]; simp only [Bool.false_and])
      intro H4 e4
      refine ite2 (fun c => ?_) (fun c => ?_)
      · rw [if_pos c] at q
        have hn : ds.length = 3 := by
          simp only [Bool.and_eq_true, decide_eq_true_eq] at c
          omega
        have ex0 : Ex H H4 := by walk_at "ex"
        obtain ⟨v2, a2, d2⟩ := dpAll_atD ha' 2 (by omega)
        walk_at "go"
        refine ⟨_, _, _, _, rfl, rfl, ex0.sqT hs, a2, ?_⟩
        walk_at "go"
        refine nL_intro fun p H3 np e3 hp => ?_
        exact q _ _ (ex0.trans e3) ⟨p, _, rfl, ex0.back np, hp, .cons d2 (.nil)⟩
      rw [if_neg c] at q
      dsimp only [tNext]
      have ee4 : Ex H H4 := by walk_at "ex"
      refine tIfS_cut (isWord "later" (atD ds 0) && decide (ds.length = 3) && isWhole 0 99 (atD ds 1)) ?_ ?_
      · intro Q' hq
        walk_at "go"
        refine ⟨_, .str "later", D0 ee4, .str _, sh0, by decide +kernel, ?_⟩
        walk_at "go"
        refine ite2 (fun c => ?_) (fun c => ?_)
        · have c : (isWord "later" (atD ds 0)) = true := c
          rw [c] at hq
          refine ⟨_, rfl, _, _, rfl, .inr (ee4.sqT hs), ?_⟩
          walk_at "go"
          refine ite2 (fun c2 => ?_) (fun c2 => ?_)
          · have c2 : decide (ds.length = 3) = true := (L 3) ▸ c2
            have hn : ds.length = 3 := of_decide_eq_true c2
            rw [c2] at hq
            walk_at "go"
            obtain ⟨v1, a1, d1⟩ := dpAll_atD ha 1 (by omega)
            refine ⟨_, _, _, _, rfl, rfl, ee4.sqT hs, a1, ?_⟩
            walk_at "go"
            refine ⟨v1, _, _, _, rfl, ee4.dp d1, _, rfl, ?_⟩
            exact leafT hq (by walk_at "ex") (by simp only [Bool.true_and])
          · have c2 : ¬ decide (ds.length = 3) = true := fun z => c2 ((L 3).symm ▸ z)
            exact leafT hq (by walk_at "ex") (by rw [Bool.eq_false_iff.mpr c2]; simp only [Bool.true_and, Bool.and_false, Bool.false_and])
        · have c : ¬ (isWord "later" (atD ds 0)) = true := c
          exact leafT hq (by walk_at "ex") (by rw [Bool.eq_false_iff.mpr c]; simp only [Bool.false_and])
      intro H5 e5
      refine ite2 (fun c => ?_) (fun c => ?_)
      · rw [if_pos c] at q
        have hn : ds.length = 3 := by
          simp only [Bool.and_eq_true, decide_eq_true_eq] at c
          omega
        have ex0 : Ex H H5 := by walk_at "ex"
        obtain ⟨v2, a2, d2⟩ := dpAll_atD ha' 2 (by omega)
        walk_at "go"
        refine ⟨_, _, _, _, rfl, rfl, ex0.sqT hs, a2, ?_⟩
        walk_at "go"
        refine nL_intro fun p H3 np e3 hp => ?_
        exact q _ _ (ex0.trans e3) ⟨p, _, rfl, ex0.back np, hp, .cons d2 (.nil)⟩
      rw [if_neg c] at q
      dsimp only [tNext]
      have ee5 : Ex H H5 := by walk_at "ex"
      refine tIfS_cut ((isWord "either" (atD ds 0) || isWord "both" (atD ds 0) || isWord "but" (atD ds 0)) && decide (ds.length = 3)) ?_ ?_
      · intro Q' hq
        walk_at "go"
        refine ⟨rO, _, rfl, .inr (q_OF_TWO _), flat_of d0 hw, rfl, ?_⟩
        rw [show (if false = true then !inV w0 [V.str "either", V.str "both", V.str "but"] else inV w0 [V.str "either", V.str "both", V.str "but"]) = (isWord "either" (atD ds 0) || isWord "both" (atD ds 0) || isWord "but" (atD ds 0)) from inV_three d0 _ _ _]
        walk_at "go"
        refine ite2 (fun c => ?_) (fun c => ?_)
        · have c : ((isWord "either" (atD ds 0) || isWord "both" (atD ds 0) || isWord "but" (atD ds 0))) = true := c
          rw [c] at hq
          refine ⟨_, rfl, _, _, rfl, .inr (ee5.sqT hs), ?_⟩
          walk_at "go"
          exact leafT hq (by walk_at "ex") (by rw [Bool.true_and]; exact (L 3).symm)
        · have c : ¬ ((isWord "either" (atD ds 0) || isWord "both" (atD ds 0) || isWord "but" (atD ds 0))) = true := c
          exact leafT hq (by walk_at "ex") (by rw [Bool.eq_false_iff.mpr c]; simp only [Bool.false_and])
      intro H6 e6
      refine ite2 (fun c => ?_) (fun c => ?_)
      · rw [if_pos c] at q
        have hn : ds.length = 3 := by
          simp only [Bool.and_eq_true, decide_eq_true_eq] at c
          omega
        have ex0 : Ex H H6 := by walk_at "ex"
        obtain ⟨v1, a1, d1⟩ := dpAll_atD ha' 1 (by omega)
        obtain ⟨v2, a2, d2⟩ := dpAll_atD ha' 2 (by omega)
        walk_at "go"
        refine ⟨_, _, _, _, rfl, rfl, ex0.sqT hs, a1, ?_⟩
        walk_at "go"
        refine ⟨_, _, _, _, rfl, rfl, ex0.sqT hs, a2, ?_⟩
        walk_at "go"
        refine nL_intro fun p H3 np e3 hp => ?_
        exact q _ _ (ex0.trans e3) ⟨p, _, rfl, ex0.back np, hp, .cons d1 (.cons d2 (.nil))⟩
      rw [if_neg c] at q
      dsimp only [tNext]
      have ee6 : Ex H H6 := by walk_at "ex"
      refine tIfS_cut (isWord "led" (atD ds 0) && decide (ds.length = 5) && isWhole 0 9999 (atD ds 2) && isWhole 0 9999 (atD ds 4)) ?_ ?_
      · intro Q' hq
        walk_at "go"
        refine ⟨_, .str "led", D0 ee6, .str _, sh0, by decide +kernel, ?_⟩
        walk_at "go"
        refine ite2 (fun c => ?_) (fun c => ?_)
        · have c : (isWord "led" (atD ds 0)) = true := c
          rw [c] at hq
          refine ⟨_, rfl, _, _, rfl, .inr (ee6.sqT hs), ?_⟩
          walk_at "go"
          refine ite2 (fun c2 => ?_) (fun c2 => ?_)
          · have c2 : decide (ds.length = 5) = true := (L 5) ▸ c2
            have hn : ds.length = 5 := of_decide_eq_true c2
            rw [c2] at hq
            walk_at "go"
            obtain ⟨v2, a2, d2⟩ := dpAll_atD ha 2 (by omega)
            refine ⟨_, _, _, _, rfl, rfl, ee6.sqT hs, a2, ?_⟩
            walk_at "go"
            refine ⟨v2, _, _, _, rfl, ee6.dp d2, _, rfl, ?_⟩
            refine ite2 (fun c3 => ?_) (fun c3 => ?_)
            · have c3 : (isWhole 0 9999 (atD ds 2)) = true := c3
              rw [c3] at hq
              walk_at "go"
              obtain ⟨v4, a4, d4⟩ := dpAll_atD ha 4 (by omega)
              refine ⟨_, _, _, _, rfl, rfl, ee6.sqT hs, a4, ?_⟩
              walk_at "go"
              refine ⟨v4, _, _, _, rfl, ee6.dp d4, _, rfl, ?_⟩
              exact leafT hq (by walk_at "ex") (by simp only [Bool.true_and])
            · have c3 : ¬ (isWhole 0 9999 (atD ds 2)) = true := c3
              exact leafT hq (by walk_at "ex") (by rw [Bool.eq_false_iff.mpr c3]; simp only [Bool.true_and, Bool.and_false, Bool.false_and])
          · have c2 : ¬ decide (ds.length = 5) = true := fun z => c2 ((L 5).symm ▸ z)
            exact leafT hq (by walk_at "ex") (by rw [Bool.eq_false_iff.mpr c2]; simp only [Bool.true_and, Bool.and_false, Bool.false_and])
        · have c : ¬ (isWord "led" (atD ds 0)) = true := c
          exact leafT hq (by walk_at "ex") (by rw [Bool.eq_false_iff.mpr c]; simp only [Bool.false_and])
      intro H7 e7
      refine ite2 (fun c => ?_) (fun c => ?_)
      · rw [if_pos c] at q
        have hn : ds.length = 5 := by
          simp only [Bool.and_eq_true, decide_eq_true_eq] at c
          omega
        have ex0 : Ex H H7 := by walk_at "ex"
        obtain ⟨v1, a1, d1⟩ := dpAll_atD ha' 1 (by omega)
        obtain ⟨v3, a3, d3⟩ := dpAll_atD ha' 3 (by omega)
        walk_at "go"
        refine ⟨_, _, _, _, rfl, rfl, ex0.sqT hs, a1, ?_⟩
        walk_at "go"
        refine ⟨_, _, _, _, rfl, rfl, ex0.sqT hs, a3, ?_⟩
        walk_at "go"
        refine nL_intro fun p H3 np e3 hp => ?_
        exact q _ _ (ex0.trans e3) ⟨p, _, rfl, ex0.back np, hp, .cons d1 (.cons d3 (.nil))⟩
      rw [if_neg c] at q
      walk_at "go"
      exact q _ _ (by walk_at "ex") rfl
    | dict _ => cases hd
    | _ =>
      refine iteT ?_
      walk_at "go"
      exact q _ _ e1 rfl


def finB (d : PyData) : Bool := dGood d && decide (PyData.depth d ≤ 63)
mutual
def fine : PyData → Bool
  | .tuple ds => finB (.tuple ds) && fineAll ds
  | d => finB d
def fineAll : List PyData → Bool
  | [] => true
  | d :: ds => fine d && fineAll ds
end
theorem fine_fin {d : PyData} (h : fine d = true) : finB d = true := by
  cases d <;> simp only [fine, Bool.and_eq_true] at h <;> first | exact h.1 | exact h
theorem fineAll_mem : ∀ {ds : List PyData}, fineAll ds = true → ∀ d ∈ ds, fine d = true
  | [], _, _, hd => by cases hd
  | e :: r, h, d, hd => by
    rw [fineAll, Bool.and_eq_true] at h
    rcases List.mem_cons.mp hd with rfl | hd
    · exact h.1
    · exact fineAll_mem h.2 d hd
theorem fine_parts {ds : List PyData} (h : fine (.tuple ds) = true) : ∀ d ∈ ds, fine d = true := by
  rw [fine, Bool.and_eq_true] at h
  exact fineAll_mem h.2
theorem atD_mem {ds : List PyData} {i : Nat} (h : i < ds.length) : atD ds i ∈ ds := by
  unfold atD
  rw [List.getD_eq_getElem?_getD, List.getElem?_eq_getElem h]
  exact List.getElem_mem _
theorem fine_inner {d : PyData} {es : List PyData} (h : fine d = true) (e : innerOf d = some es) : ∀ x ∈ es, fine x = true := by
  cases d with
  | tuple ds =>
    have hm := fine_parts h
    have e : innerT ds = some es := e
    unfold innerT at e
    intro x hx
    repeat' split at e
    all_goals first | cases e | skip
    all_goals
      rename_i hc
      simp only [Bool.and_eq_true, decide_eq_true_eq] at hc
    · cases hx
    · rcases List.mem_singleton.mp hx with rfl; exact hm _ (atD_mem (by omega))
    · rcases List.mem_singleton.mp hx with rfl; exact hm _ (atD_mem (by omega))
    · rcases List.mem_singleton.mp hx with rfl; exact hm _ (atD_mem (by omega))
    · rcases List.mem_cons.mp hx with rfl | hx
      · exact hm _ (atD_mem (by omega))
      · rcases List.mem_singleton.mp hx with rfl; exact hm _ (atD_mem (by omega))
    · rcases List.mem_cons.mp hx with rfl | hx
      · exact hm _ (atD_mem (by omega))
      · rcases List.mem_singleton.mp hx with rfl; exact hm _ (atD_mem (by omega))
  | _ => cases e
theorem inner_len {d : PyData} {es : List PyData} (e : innerOf d = some es) : es.length ≤ 2 := by
  cases d with
  | tuple ds =>
    have e : innerT ds = some es := e
    unfold innerT at e
    repeat' split at e
    all_goals first | cases e | skip
    all_goals simp
  | _ => cases e
/-- what is still to be looked at, the next one first; k tuples more -/
def lookFrom : Nat → List PyData → Bool
  | _, [] => true
  | 0, _ :: _ => false
  | k + 1, d :: r => match innerOf d with
    | none => false
    | some ds => lookFrom k (ds.reverse ++ r)
def isBeatD (d : PyData) : Bool := lookFrom 30 [d]
theorem sc_is_beat : FnScope ["beat", "left", "many", "inner"] ["beat"] (defScope s_is_beat) := ⟨rfl, rfl, rfl, by decide +kernel, rfl, by decide +kernel, by decide +kernel⟩
def spIsBeat (K : PySem.W.Frag) : Sp := fun vs H Q _ => ∃ (v : V) (d : PyData), vs = [v] ∧ Dp K H v d ∧ fine d = true ∧ ∀ H', Ex H H' → Q (.bl (isBeatD d)) H'
theorem shaped_fine {ds : List PyData} (h : ∀ d ∈ ds, fine d = true) : SeqAt.shaped (.list ds) = true := by
  refine (shaped_of fun d hd => ?_).1
  have h := fine_fin (h d hd)
  unfold finB dGood at h
  simp only [Bool.and_eq_true, decide_eq_true_eq] at h
  exact ⟨(shaped_iff.mp h.1.1.1).1, h.2⟩
theorem ok_is_beat {f : Addr} {fd : FuncData} (F : Fun K "is_beat" "is_beat" s_is_beat f fd) (B : Blt mg) (g_MOST_TUPLES : ∃ u, mg "MOST_TUPLES" = some u ∧ RelV (.int 30) u)
    (c_inner_of : Dn P w K mg base 3 "inner_of" (spInner K)) : FnOk P w K mg base CX0 4 f fd ["beat"] (spIsBeat K) := by
  have nd := sc_is_beat.nd
  refine F.ok sc_is_beat (fun vs H Q E h => ?_) (fun cdv A outer s H vs Q E hr h => ?_)
  · obtain ⟨v, d, rfl, _⟩ := h
    rfl
  · obtain ⟨v, d, rfl, hd, hf, q⟩ := h
    refine ⟨_, 
    (pss_cons (ps_set (i := 1) nd rfl (Or.inl rfl) (pe_lstN (pa_cons (pv 0) pa_nil)))
    (pss_cons (ps_set (i := 2) nd rfl (Or.inl rfl) pe_int)
    (pss_cons (ps_while PassesOwn.never (pt_cmp (neNilD (K := K) rfl hr.units (pv 1))) (pss_cons (ps_set (i := 3) nd rfl (Or.inl rfl) (pe_d c_inner_of hr (by decide) passL (by rfl) (pa_cons (pe_bm0 PySem.F.plainAttrs_list PySem.F.slot_list_pop PySem.F.type_list_pop mt_pop (pv 1)) pa_nil)))
    (pss_cons (ps_set (i := 2) nd rfl (Or.inl rfl) (pe_op op_add (pv 2) pe_int))
    (pss_cons (ps_if (PW.pt (pw_or (pt_cmpR op_isN (pv 3) pe_non (nomark _)) (pw_or1 (pt_cmpR op_gt (pv 2) (pe_gl rfl g_MOST_TUPLES) (nomark _))))) (pss_one (ps_ret pe_bl)) pss_nil)
    (pss_one (ps_expr (pe_bm PySem.F.plainAttrs_list PySem.F.slot_list_extend PySem.F.type_list_extend mt_extend (pv 1) (pa_cons (pv 3) pa_nil))))))))
    (pss_one (ps_ret pe_bl))))), ?_⟩
    try dsimp only [cxOf, Cx.nox, Cx.wish]
    walk_at "go"
    refine nL_intro fun L H1 nL e1 hL => ?_
    walk_at "go"
    refine ⟨fun m σ H' => ∃ (stk : List PyData) (vs : List V) (k : Nat) (y : Option V), σ = [some v, some (.ref L), some (.int (k : Int)), y] ∧ Ex H H' ∧ H' L = some (.lst vs) ∧ DpAll K H vs stk.reverse ∧ (∀ x ∈ stk, fine x = true) ∧ k ≤ 30 ∧ stk.length ≤ 2 * k + 1 ∧
      isBeatD d = lookFrom (30 - k) stk ∧ m = 30 - k, ⟨_, [d], [v], 0, none, rfl, e1, hL, .cons hd .nil, fun x hx => by rw [List.mem_singleton.mp hx]; exact hf, by omega, by simp, rfl, rfl⟩, ?_⟩
    rintro m σ H2 ⟨stk, vs, k, y, rfl, e2, hL2, ha, hfi, hk, hsz, hb, rfl⟩
    walk_at "go"
    refine ⟨_, stk.reverse, rfl, .lst (.of hL2) (e2.dpAll ha), shaped_fine (fun x hx => hfi x (List.mem_reverse.mp hx)), ?_⟩
    walk_at "go"
    rename_i H3 e3
    cases stk with
    | nil =>
      walk_at "go"
      refine iteF ?_
      walk_at "go"
      rw [show lookFrom (30 - k) [] = true by cases 30 - k <;> rfl] at hb
      rw [hb] at q
      exact q _ (by walk_at "ex")
    | cons t r =>
      rw [List.reverse_cons] at ha
      obtain ⟨us, u, rfl, ga, gd⟩ := dpAll_snoc ha
      have hem : (!((t :: r).reverse).isEmpty) = true := by simp
      rw [hem]
      refine iteT ?_
      have hft : fine t = true := hfi t List.mem_cons_self
      refine ⟨fun σ2 H' => k < 30 ∧ ∃ (ds : List PyData) (vs' : List V) (y' : Option V), σ2 = [some v, some (.ref L), some (.int ((k + 1 : Nat) : Int)), y'] ∧ innerOf t = some ds ∧ Ex H H' ∧ H' L = some (.lst vs') ∧ DpAll K H vs' (ds.reverse ++ r).reverse, ?_, ?_⟩
      · rintro σ2 H' ⟨hk30, ds, vs', y', rfl, hi, e', hL', ha'⟩
        refine ⟨30 - (k + 1), by omega, ds.reverse ++ r, vs', k + 1, y', rfl, e', hL', ha', fun x hx => ?_, by omega, ?_, ?_, rfl⟩
        · rcases List.mem_append.mp hx with hx | hx
          · exact fine_inner hft hi x (List.mem_reverse.mp hx)
          · exact hfi x (List.mem_cons_of_mem _ hx)
        · have := inner_len hi
          rw [List.length_append, List.length_reverse]
          rw [List.length_cons] at hsz
          omega
        · rw [hb, show 30 - k = (30 - (k + 1)) + 1 by omega, lookFrom, hi]
      have hL3 := e3 _ _ hL2
      have nLH : H L = none := nL
      walk_at "go"
      refine ⟨.inl ⟨rfl, _, .of hL3⟩, L, _, u, rfl, rfl, hL3, by simp, ?_⟩
      rw [List.dropLast_concat]
      have e4 : Ex H (upd H3 L (.lst us)) := Ex.mut (e2.trans e3) nLH
      have hL4 : (upd H3 L (.lst us)) L = some (.lst us) := upd_same
      generalize upd H3 L (.lst us) = H4 at e4 hL4 ⊢
      refine ⟨u, t, H, rfl, e4, gd, ?_, fun z H5 e5 hz => ?_⟩
      · have := fine_fin hft
        unfold finB at this
        rw [Bool.and_eq_true] at this
        exact this.1
      walk_at "go"
      have hL5 := e5 _ _ hL4
      have e05 : Ex H H5 := e4.trans e5
      have hb2 : innerOf t = none ∨ k = 30 → isBeatD d = false := fun o => by
        rw [hb]
        by_cases hk3 : k = 30
        · rw [hk3]; rfl
        · rw [show 30 - k = (30 - (k + 1)) + 1 by omega, lookFrom]
          rcases o with o | o
          · rw [o]
          · exact absurd o hk3
      refine ite2 (fun c => ?_) (fun c => ?_)
      · have c : z = V.non := of_decide_eq_true c
        have hi : innerOf t = none := by
          cases hi : innerOf t with
          | none => rfl
          | some es =>
            rw [hi] at hz
            obtain ⟨p, vs, ez, _⟩ := hz
            rw [c] at ez
            cases ez
        rw [hb2 (.inl hi)] at q
        refine iteT ?_
        walk_at "go"
        exact q _ e05
      · have c : ¬ z = V.non := not_dec c
        obtain ⟨es, hi⟩ : ∃ es, innerOf t = some es := by
          cases hi : innerOf t with
          | none => rw [hi] at hz; exact absurd hz c
          | some es => exact ⟨es, rfl⟩
        rw [hi] at hz
        obtain ⟨p, ws, rfl, np, hp, hw⟩ := hz
        walk_at "go"
        refine ite2 (fun c2 => ?_) (fun c2 => ?_)
        · have c2 : (30 : Int) < (k : Int) + 1 := of_decide_eq_true c2
          rw [hb2 (.inr (by omega))] at q
          walk_at "go"
          exact q _ e05
        · have c2 : ¬ (30 : Int) < (k : Int) + 1 := not_dec c2
          walk_at "go"
          refine ⟨.inl ⟨rfl, _, .of hL5⟩, ?_⟩
          walk_at "go"
          refine ⟨L, p, _, _, rfl, rfl, hL5, hp, ?_, ?_⟩
          · have h1 := dpAll_len ga
            have h2 := dpAll_len hw
            have h3 := inner_len hi
            rw [h1, h2, List.length_reverse]
            rw [List.length_cons] at hsz
            exact Nat.le_trans (show r.length + es.length ≤ 100 by omega) (by decide)
          refine ⟨by omega, es, us ++ ws, some (.ref p), ?_, hi, Ex.mut e05 nLH, upd_same, ?_⟩
          · simp
          · rw [List.reverse_append, List.reverse_reverse]
            exact dpAll_app ga hw
theorem sc_need_beat : FnScope ["beat"] ["beat"] (defScope s_need_beat) := ⟨rfl, rfl, rfl, by decide +kernel, rfl, by decide +kernel, by decide +kernel⟩
/-- refused if it is no beat -/
def spNeed (K : PySem.W.Frag) (C : Addr) : Sp := fun vs H Q E => ∃ (v : V) (d : PyData), vs = [v] ∧ Dp K H v d ∧ fine d = true ∧ (isBeatD d = true → ∀ H', Ex H H' → Q .non H') ∧ (isBeatD d = false → ∀ H', Ex H H' → E (.ref C) none H')
theorem ok_need_beat {f C : Addr} {fd : FuncData} (F : Fun K "need_beat" "need_beat" s_need_beat f fd) (T_NoBeat : ExC K mg "NoBeat" C) (c_is_beat : Dn P w K mg base 4 "is_beat" (spIsBeat K)) :
    FnOk P w K mg base (L2.CX P w) 5 f fd ["beat"] (spNeed K C) := by
  have nd := sc_need_beat.nd
  refine F.okX sc_need_beat (fun vs H Q E h => ?_) (fun cdv A outer s H vs Q E hr h => ?_)
  · obtain ⟨n, d, rfl, _⟩ := h
    rfl
  · obtain ⟨v, d, rfl, hd, hf, q1, q2⟩ := h
    refine ⟨_, 
    (pss_one (ps_if (pt_not (pt_val (pe_d c_is_beat hr (by decide) (passes_call (takes_of rfl rfl rfl rfl) fun _ _ _ _ h => h) (by rfl) (pa_cons (pv 0) pa_nil)))) (pss_one (ps_raise rfl (takes_of rfl rfl rfl rfl) (pmk_own PySem.F.excBase_ValueError T_NoBeat.q T_NoBeat.gC T_NoBeat.kC (raises_own T_NoBeat.sB T_NoBeat.tC) rfl))) pss_nil)), ?_⟩
    try dsimp only [cxOf, Cx.nox, Cx.wish]
    walk_at "go"
    rename_i H1 e1
    cases hb : isBeatD d with
    | true => exact q1 hb _ e1
    | false => exact q2 hb _ e1


/-! ### what a law compares with -/
def spNever : Sp := fun _ _ _ _ => False
theorem never_ok {X : CXT} {k : Nat} {f : Addr} {fd : FuncData} {ps : List Str} : FnOk P w K mg base X k f fd ps spNever := ⟨fun _ _ _ _ h => h.elim, fun _ _ _ _ _ _ _ _ _ _ _ _ _ h => h.elim⟩
mutual
/-- no list or tuple has too many items -/
def narrow : PyData → Bool
  | .list ds | .tuple ds => decide (ds.length ≤ 100000) && narrowAll ds
  | _ => true
def narrowAll : List PyData → Bool
  | [] => true
  | d :: ds => narrow d && narrowAll ds
end
theorem narrowAll_mem : ∀ {ds : List PyData}, narrowAll ds = true → ∀ d ∈ ds, narrow d = true
  | [], _, _, hd => by cases hd
  | e :: r, h, d, hd => by
    rw [narrowAll, Bool.and_eq_true] at h
    rcases List.mem_cons.mp hd with rfl | hd
    · exact h.1
    · exact narrowAll_mem h.2 d hd
theorem narrowAll_of : ∀ {ds : List PyData}, (∀ d ∈ ds, narrow d = true) → narrowAll ds = true
  | [], _ => by simp [narrowAll]
  | e :: r, h => by
    rw [narrowAll, h e List.mem_cons_self, narrowAll_of fun d hd => h d (List.mem_cons_of_mem _ hd)]
    rfl
theorem sc__law_alike : FnScope ["_law_found", "_law_due", "_law_k"] ["_law_found", "_law_due"] (defScope s__law_alike) := ⟨rfl, rfl, rfl, by decide +kernel, rfl, by decide +kernel, by decide +kernel⟩
/-- the same data twice, of less than n around one another -/
def spAlike (K : PySem.W.Frag) (n : Nat) : Sp := fun vs H Q _ => ∃ (v u : V) (d : PyData), vs = [v, u] ∧ Dp K H v d ∧ Dp K H u d ∧ SeqAt.shaped d = true ∧ narrow d = true ∧ PyData.depth d < n ∧ ∀ H', Ex H H' → Q (.bl true) H'
theorem eqv_refl_str (x : Str) : PyData.eqv (.str x) (.str x) = true := by simp [PyData.eqv]
theorem eqv_refl_int (x : Int) : PyData.eqv (.int x) (.int x) = true := by simp [PyData.eqv]
theorem eqv_refl_bool (x : Bool) : PyData.eqv (.bool x) (.bool x) = true := by simp [PyData.eqv]
def partsOf : PyData → List PyData
  | .list ds | .tuple ds => ds
  | _ => []
theorem narrow_parts {d : PyData} (h : narrow d = true) : (partsOf d).length ≤ 100000 ∧ ∀ x ∈ partsOf d, narrow x = true := by
  cases d <;> simp only [partsOf]
  case list ds =>
    rw [narrow, Bool.and_eq_true] at h
    exact ⟨of_decide_eq_true h.1, narrowAll_mem h.2⟩
  case tuple ds =>
    rw [narrow, Bool.and_eq_true] at h
    exact ⟨of_decide_eq_true h.1, narrowAll_mem h.2⟩
  all_goals exact ⟨Nat.zero_le _, fun x hx => by cases hx⟩
theorem dp_seq {H : Hp} {v : V} {d : PyData} (hk : (isA "tuple" d || isA "list" d) = true) (h : Dp K H v d) : ∃ a xs, v = .ref a ∧ (SqL K H a xs ∨ SqT K H a xs) ∧ DpAll K H xs (partsOf d) := by
  cases h with
  | lst h a => exact ⟨_, _, rfl, .inl h, a⟩
  | tup h a => exact ⟨_, _, rfl, .inr h, a⟩
  | _ => simp [isA_tab] at hk
theorem Ex.sq2 {H H' : Hp} {a : Addr} {xs : List V} (e : Ex H H') (h : SqL K H a xs ∨ SqT K H a xs) : SqL K H' a xs ∨ SqT K H' a xs := h.imp e.sqL e.sqT
theorem parts_shaped {d : PyData} (h : SeqAt.shaped d = true) : ∀ x ∈ partsOf d, SeqAt.shaped x = true := by
  cases d with
  | list ds =>
    refine shaped_of_mem (ds := ds) ?_
    rw [shaped_iff] at h ⊢
    simp only [PyData.canLay0, PyData.depth] at h ⊢
    exact h
  | tuple ds => exact shaped_of_mem h
  | _ => intro x hx; cases hx
theorem depth_parts {d : PyData} : ∀ x ∈ partsOf d, PyData.depth x < PyData.depth d := by
  have key : ∀ ds : List PyData, ∀ x ∈ ds, PyData.depth x ≤ PyData.depthAll ds := by
    intro ds
    induction ds with
    | nil => intro x hx; cases hx
    | cons e r ih =>
      intro x hx
      rw [PyData.depthAll]
      rcases List.mem_cons.mp hx with rfl | hx
      · omega
      · have := ih x hx
        omega
  cases d with
  | list ds =>
    intro x hx
    rw [PyData.depth]
    have := key ds x hx
    omega
  | tuple ds =>
    intro x hx
    rw [PyData.depth]
    have := key ds x hx
    omega
  | _ => intro x hx; cases hx
theorem iteND {c A B : Prop} [Decidable c] (hc : c) (h : B) : if (!decide c) = true then A else B := by
  rw [decide_eq_true hc]
  exact h
theorem step_alike {f : Addr} {fd : FuncData} (F : Fun K "_law_alike" "_law_alike" s__law_alike f fd) (B : Blt mg) {n : Nat} (c__law_alike : Dn P w K mg base (n + 1) "_law_alike" (spAlike K n)) : FnOk P w K mg base CX0 (n + 2) f fd ["_law_found", "_law_due"] (spAlike K (n + 1)) := by
  have nd := sc__law_alike.nd
  refine F.ok sc__law_alike (fun vs H Q E h => ?_) (fun cdv A outer s H vs Q E hr h => ?_)
  · obtain ⟨v, u, d, rfl, _⟩ := h
    rfl
  · obtain ⟨v, u, d, rfl, hv, hu, hsh, hnw, hdp, q⟩ := h
    refine ⟨_, 
    (pss_cons (ps_if (pt_val (pe_callB (isiD2 (K := K) rfl) (by rfl) B.isinstance bt_isinstance (pa_cons (pv 1) (pa_cons (pe_tupN (pa_cons (pe_bltn (v := .ty "tuple") (u := Value.type "tuple") (by rfl) B.tuple bt_tuple rfl) (pa_cons (pe_bltn (v := .ty "list") (u := Value.type "list") (by rfl) B.list bt_list rfl) pa_nil))) pa_nil)))) (pss_cons (ps_if (PW.pt (pw_or (pt_not (pt_val (pe_callB (isiD2 (K := K) rfl) (by rfl) B.isinstance bt_isinstance (pa_cons (pv 0) (pa_cons (pe_tupN (pa_cons (pe_bltn (v := .ty "tuple") (u := Value.type "tuple") (by rfl) B.tuple bt_tuple rfl) (pa_cons (pe_bltn (v := .ty "list") (u := Value.type "list") (by rfl) B.list bt_list rfl) pa_nil))) pa_nil))))) (pw_or1 (pt_cmpR op_ne (pe_callB (isiD (K := K) rfl) (by rfl) B.isinstance bt_isinstance (pa_cons (pv 0) (pa_cons (pe_bltn (v := .ty "list") (u := Value.type "list") (by rfl) B.list bt_list rfl) pa_nil))) (pe_callB (isiD (K := K) rfl) (by rfl) B.isinstance bt_isinstance (pa_cons (pv 1) (pa_cons (pe_bltn (v := .ty "list") (u := Value.type "list") (by rfl) B.list bt_list rfl) pa_nil))) (nomark _))))) (pss_one (ps_ret pe_bl)) pss_nil)
    (pss_cons (ps_if (pt_cmpR op_ne (pe_callB (lenK (K := K) rfl) (by rfl) B.len PySem.boot_len (pa_cons (pv 0) pa_nil)) (pe_callB (lenK (K := K) rfl) (by rfl) B.len PySem.boot_len (pa_cons (pv 1) pa_nil)) (nomark _)) (pss_one (ps_ret pe_bl)) pss_nil)
    (pss_one (ps_ret (pe_cmp (eqNil (K := K) rfl hr.units (pe_lc (own := [("_law_k", 2)]) (g := gName 2) rfl nd (pi_range1 (by rfl) B.range (pa_cons (pe_callB (lenK (K := K) rfl) (by rfl) B.len PySem.boot_len (pa_cons (pv 1) pa_nil)) pa_nil)) (blkOk_by (N := ["_law_found", "_law_due", "_law_k"]) (sc := defScope s__law_alike) (by decide +kernel)) (fun _ _ _ _ _ => pg_name (i := 2) nd rfl (Or.inl rfl)) (fun _ _ _ _ _ => (pts_one (pt_not (pt_val (pe_d c__law_alike hr (by omega) passL (by rfl) (pa_cons (pe_ix (ixlt (K := K) rfl) (pv 0) (pv 2) (fun _ _ => rfl)) (pa_cons (pe_ix (ixlt (K := K) rfl) (pv 1) (pv 2) (fun _ _ => rfl)) pa_nil))))))) (fun _ _ _ _ _ => (pv 2))))))))) pss_nil)
    (pss_cons (ps_if (pt_cmpR op_isN (pv 1) pe_non (nomark _)) (pss_one (ps_ret (pe_cmpR op_isN (pv 0) pe_non (nomark _)))) pss_nil)
    (pss_cons (ps_if (pt_val (pe_callB (isiD (K := K) rfl) (by rfl) B.isinstance bt_isinstance (pa_cons (pv 1) (pa_cons (pe_bltn (v := .ty "str") (u := Value.type "str") (by rfl) B.str bt_str rfl) pa_nil)))) (pss_one (ps_ret (pe_and (pe_callB (isiD (K := K) rfl) (by rfl) B.isinstance bt_isinstance (pa_cons (pv 0) (pa_cons (pe_bltn (v := .ty "str") (u := Value.type "str") (by rfl) B.str bt_str rfl) pa_nil))) (pe_one (pe_cmpR (eqD (K := K) rfl hr.units) (pv 0) (pv 1) (nomark _)))))) pss_nil)
    (pss_cons (ps_if (PW.pt (pw_or (pt_val (pe_callB (isiD (K := K) rfl) (by rfl) B.isinstance bt_isinstance (pa_cons (pv 1) (pa_cons (pe_bltn (v := .ty "bool") (u := Value.type "bool") (by rfl) B.bool bt_bool rfl) pa_nil)))) (pw_or1 (pt_val (pe_callB (isiD (K := K) rfl) (by rfl) B.isinstance bt_isinstance (pa_cons (pv 0) (pa_cons (pe_bltn (v := .ty "bool") (u := Value.type "bool") (by rfl) B.bool bt_bool rfl) pa_nil))))))) (pss_one (ps_ret (pe_and (pe_callB (isiD (K := K) rfl) (by rfl) B.isinstance bt_isinstance (pa_cons (pv 1) (pa_cons (pe_bltn (v := .ty "bool") (u := Value.type "bool") (by rfl) B.bool bt_bool rfl) pa_nil))) (pe_and (pe_callB (isiD (K := K) rfl) (by rfl) B.isinstance bt_isinstance (pa_cons (pv 0) (pa_cons (pe_bltn (v := .ty "bool") (u := Value.type "bool") (by rfl) B.bool bt_bool rfl) pa_nil))) (pe_one (pe_cmpR (eqD (K := K) rfl hr.units) (pv 0) (pv 1) (nomark _))))))) pss_nil)
    (pss_one (ps_ret (pe_and (pe_callB (isiD (K := K) rfl) (by rfl) B.isinstance bt_isinstance (pa_cons (pv 0) (pa_cons (pe_bltn (v := .ty "int") (u := Value.type "int") (by rfl) B.int bt_int rfl) pa_nil))) (pe_one (pe_cmpR (eqD (K := K) rfl hr.units) (pv 0) (pv 1) (nomark _)))))))))), ?_⟩
    try dsimp only [cxOf, Cx.nox, Cx.wish]
    walk_at "go"
    refine nT_intro fun tp H1 np e1 hp => ?_
    walk_at "go"
    refine ⟨u, tp, "tuple", "list", d, rfl, hp, e1.dp hu, rfl, rfl, ?_⟩
    have hsc : ∀ {H'}, Ex H H' → Q (.bl true) H' := fun e => q _ e
    have hd0 : ∀ ds : List PyData, (d = .list ds ∨ d = .tuple ds) → True := fun _ _ => trivial
    cases hk : (isA "tuple" d || isA "list" d) with
    | false =>
      refine ⟨_, rfl, ?_⟩
      refine iteF ?_
      cases d with
      | none =>
        cases hv
        cases hu
        walk_at "go"
        rw [show decide (V.non = V.non) = true from decide_eq_true rfl]
        exact q _ (by walk_at "ex")
      | bool b =>
        cases hv
        cases hu
        walk_at "go"
        simp only [isA_tab]
        walk_at "go"
        refine ⟨_, _, .bl b, .bl b, hsh, hsh, ?_⟩
        rw [eqv_refl_bool]
        exact q _ (by walk_at "ex")
      | int i =>
        cases hv
        cases hu
        walk_at "go"
        simp only [isA_tab]
        walk_at "go"
        refine ⟨_, _, .int i, .int i, hsh, hsh, ?_⟩
        rw [eqv_refl_int]
        exact q _ (by walk_at "ex")
      | str x =>
        cases hv
        cases hu
        walk_at "go"
        simp only [isA_tab]
        walk_at "go"
        refine ⟨_, _, .str x, .str x, hsh, hsh, ?_⟩
        rw [eqv_refl_str]
        exact q _ (by walk_at "ex")
      | list ds => simp [isA_tab] at hk
      | tuple ds => simp [isA_tab] at hk
      | dict _ => cases hu
    | true =>
      obtain ⟨a, xs, rfl, sv, av⟩ := dp_seq hk hv
      obtain ⟨b, ys, rfl, su, au⟩ := dp_seq hk hu
      have lv := dpAll_len av
      have lu := dpAll_len au
      refine ⟨_, rfl, ?_⟩
      refine iteT ?_
      walk_at "go"
      refine nT_intro fun tp2 H2 np2 e2 hp2 => ?_
      walk_at "go"
      refine ⟨_, tp2, "tuple", "list", d, rfl, hp2, by walk_at "dp", rfl, rfl, ?_⟩
      rw [hk]
      walk_at "go"
      refine iteND rfl ?_
      have e02 : Ex H H2 := e1.trans e2
      refine ⟨_, rfl, _, xs, rfl, e02.sq2 sv, _, rfl, _, ys, rfl, e02.sq2 su, ?_⟩
      walk_at "go"
      refine iteND (congrArg V.int (by rw [lv, lu])) ?_
      refine ⟨_, rfl, _, ys, rfl, e02.sq2 su, ?_⟩
      obtain ⟨hn1, hn2⟩ := narrow_parts hnw
      have hn3 : ys.length ≤ 100000 := by omega
      refine ⟨_, rfl, by omega, by omega, ?_⟩
      rw [show ((ys.length : Int)).toNat = ys.length by omega]
      refine lc_out (fun _ => none) Goes.range (by omega) ?_ ?_
      · rintro i x H' hi e rfl R hR
        obtain ⟨va, da, h1, h2, h3⟩ := dpAll_at av i (by omega)
        obtain ⟨vb, db, g1, g2, g3⟩ := dpAll_at au i (by omega)
        rw [h2] at g2
        cases g2
        have hmem : da ∈ partsOf d := List.mem_of_getElem? h2
        refine ⟨rfl, ?_⟩
        have e' : Ex H H' := e02.trans e
        have pick : ∀ {c : Addr} {zs : List V} {z : V} {Q' : VK}, (SqL K H' c zs ∨ SqT K H' c zs) → zs[i]? = some z → Q' z H' → (fun x y H Q => rIxL K x y H Q ∨ rIxT K x y H Q) (V.ref c) (V.int (0 + (i : Int))) H' Q' := fun {c zs z Q'} hs hz hq => by
          have hz' : atI zs (0 + (i : Int)) = some z := by rw [Int.zero_add]; exact atI_nat hz
          rcases hs with hs | hs
          · exact .inl ⟨c, zs, _, z, rfl, rfl, hs, hz', hq⟩
          · exact .inr ⟨c, zs, _, z, rfl, rfl, hs, hz', hq⟩
        walk_at "go"
        refine pick (e'.sq2 sv) h1 ?_
        walk_at "go"
        refine pick (e'.sq2 su) g1 ?_
        walk_at "go"
        refine ⟨va, vb, da, rfl, e'.dp h3, e'.dp g3, parts_shaped hsh _ hmem, hn2 _ hmem, by have := depth_parts _ hmem; omega, fun H5 e5 => ?_⟩
        walk_at "go"
        exact hR _ _ rfl (by walk_at "ex")
      intro p3 H3 np3 e3 hp3
      have : outs (fun _ => none) ys.length = ([] : List V) := by
        unfold outs
        simp
      rw [this] at hp3
      refine ⟨p3, [], rfl, .of hp3, ?_⟩
      walk_at "go"
      exact q _ (by walk_at "ex")
theorem ok_alike {f : Addr} {fd : FuncData} (F : Fun K "_law_alike" "_law_alike" s__law_alike f fd) (B : Blt mg) (hm : mg "_law_alike" = some (.ref f)) (hk : PySem.W.keepIn K (.ref f) = true) (hb : Binds K fd ["_law_found", "_law_due"] []) :
    ∀ n, FnOk P w K mg base CX0 (n + 1) f fd ["_law_found", "_law_due"] (spAlike K n)
  | 0 => never_ok.imp fun _ _ _ _ ⟨_, _, _, _, _, _, _, _, h, _⟩ => absurd h (Nat.not_lt_zero _)
  | n + 1 => step_alike F B (.of0 (ok_alike F B hm hk hb n) hm hk hb)
theorem sc__law_common : FnScope ["_law_one", "_law_other"] ["_law_one", "_law_other"] (defScope s__law_common) := ⟨rfl, rfl, rfl, by decide +kernel, rfl, by decide +kernel, by decide +kernel⟩
theorem ok__law_common {f : Addr} {fd : FuncData} (F : Fun K "_law_common" "_law_common" s__law_common f fd) : FnOk P w K mg base CX0 1 f fd ["_law_one", "_law_other"] spDivisor := by
  have nd := sc__law_common.nd
  refine F.ok sc__law_common (fun vs H Q E h => ?_) (fun cdv A outer s H vs Q E hr h => ?_)
  · obtain ⟨x, y, rfl, _⟩ := h
    rfl
  · obtain ⟨x, y, rfl, hx, hy, q⟩ := h
    refine ⟨_, 
    (pss_cons (ps_while PassesOwn.never (pt_cmpR op_gt (pv 1) pe_int (nomark _)) (pss_one (ps_par (i := 0) (j := 1) rfl nd rfl rfl (by decide) rfl rfl (pa_cons (pv 1) (pa_cons (pe_op op_mod (pv 0) (pv 1)) pa_nil)) (by rfl))))
    (pss_one (ps_ret (pv 0)))), ?_⟩
    refine ⟨fun m σ H' => H' = H ∧ ∃ a b : Int, σ = [some (.int a), some (.int b)] ∧ 0 ≤ a ∧ 0 ≤ b ∧ gcdZ a b = gcdZ x y ∧ m = b.toNat, ⟨_, rfl, x, y, rfl, hx, hy, rfl, rfl⟩, ?_⟩
    rintro m σ H' ⟨rfl, a, b, rfl, ha, hb, hg, rfl⟩
    refine ⟨_, rfl, _, _, rfl, rfl, _, rfl, ite2 (fun c => ?_) (fun c => ?_)⟩
    · have c : 0 < b := of_decide_eq_true c
      refine ⟨fun σ2 H2 => H2 = H' ∧ σ2 = [some (.int b), some (.int (a % b))], ?_, ?_⟩
      · rintro σ2 H2 ⟨rfl, rfl⟩
        refine ⟨_, ?_, rfl, b, a % b, rfl, hb, Int.emod_nonneg _ (by omega), ?_, rfl⟩
        · have := Int.emod_lt_of_pos a c
          have := Int.emod_nonneg a (show b ≠ 0 by omega)
          omega
        · rw [← hg]
          exact gcdZ_mod ha hb
      · exact ⟨_, rfl, _, rfl, _, rfl, _, _, rfl, rfl, c, _, _, rfl, rfl, rfl⟩
    · have c : ¬ 0 < b := fun z => c (decide_eq_true z)
      have e : b = 0 := by omega
      subst e
      refine ⟨_, rfl, ?_⟩
      have e : gcdZ x y = a := by
        rw [← hg]
        unfold gcdZ
        rw [Int.gcd_zero_right]
        omega
      rw [e] at q
      exact q
theorem sc__law_reduced : FnScope ["_law_top", "_law_bottom", "_law_common_here"] ["_law_top", "_law_bottom"] (defScope s__law_reduced) := ⟨rfl, rfl, rfl, by decide +kernel, rfl, by decide +kernel, by decide +kernel⟩
/-- a fraction, reduced; its greatest common divisor is not too great -/
def spReduced : Sp := fun vs H Q _ => ∃ x y : Int, vs = [.int x, .int y] ∧ 0 ≤ x ∧ 0 ≤ y ∧ 0 < gcdZ x y ∧ gcdZ x y < 1073741824 ∧ nT H [.int (x / gcdZ x y), .int (y / gcdZ x y)] Q
theorem ok__law_reduced {f : Addr} {fd : FuncData} (F : Fun K "_law_reduced" "_law_reduced" s__law_reduced f fd) (c__law_common : Dn P w K mg base 1 "_law_common" spDivisor) : FnOk P w K mg base CX0 2 f fd ["_law_top", "_law_bottom"] spReduced := by
  have nd := sc__law_reduced.nd
  refine F.ok sc__law_reduced (fun vs H Q E h => ?_) (fun cdv A outer s H vs Q E hr h => ?_)
  · obtain ⟨x, y, rfl, _⟩ := h
    rfl
  · obtain ⟨x, y, rfl, hx, hy, g0, g1, q⟩ := h
    refine ⟨_, 
    (pss_cons (ps_set (i := 2) nd rfl (Or.inl rfl) (pe_d c__law_common hr (by decide) passL (by rfl) (pa_cons (pv 0) (pa_cons (pv 1) pa_nil))))
    (pss_one (ps_ret (pe_tupN (pa_cons (pe_op op_fdiv (pv 0) (pv 2)) (pa_cons (pe_op op_fdiv (pv 1) (pv 2)) pa_nil)))))), ?_⟩
    try dsimp only [cxOf, Cx.nox, Cx.wish]
    walk_at "go"
    exact q


/-! ### stocks, signs -/
def RatioOk (r : Int × Int) : Prop := 1 ≤ r.1 ∧ 2 * r.1 ≤ r.2 ∧ r.2 ≤ 12
structure StockOk (st : List (Int × Int)) : Prop where
  lo : 1 ≤ st.length
  hi : st.length ≤ 5
  all : ∀ r ∈ st, RatioOk r
theorem at_two {a b r : Int} (h0 : 0 ≤ r) (h1 : r < 2) : atI [V.int a, V.int b] r = some (.int (if r = 0 then a else b)) := by
  have : r = 0 ∨ r = 1 := by omega
  rcases this with rfl | rfl
  · exact atI_nat (j := 0) rfl
  · exact atI_nat (j := 1) rfl
def spStock (K : PySem.W.Frag) : Sp := fun vs H Q _ => ∃ (h : Addr), vs = [.ref h] ∧ Rng H h ∧ ∀ v H' st, Ex H H' → StkAt K H' v st → StockOk st → Q v H'
def evenTo (p q i : Nat) : List Bool := (List.range q).map fun place => (List.range i).any fun k => k * q / p == place
def sB (b : Bool) : V := .str ⟨#[bitC b]⟩
theorem sB_one : V.str (Str.ofString "1") = sB true := by decide +kernel
theorem sB_nought : V.str (Str.ofString "0") = sB false := by decide +kernel
theorem evenTo_zero (p q : Nat) : evenTo p q 0 = List.replicate q false := by
  unfold evenTo
  simp [List.map_const']
theorem evenTo_succ (p q i : Nat) (h : i * q / p < q) : (evenTo p q i).set (i * q / p) true = evenTo p q (i + 1) := by
  unfold evenTo
  refine List.ext_getElem (by simp) fun j h1 h2 => ?_
  simp only [List.length_set, List.length_map, List.length_range] at h1
  rw [List.getElem_set]
  simp only [List.getElem_map, List.getElem_range, List.range_succ, List.any_append, List.any_cons, List.any_nil, Bool.or_false]
  by_cases e : i * q / p = j
  · simp [e]
  · simp [e]
theorem bits_map (bits : List Bool) : bits.map sB = (bits.map fun b => (⟨#[bitC b]⟩ : Str)).map V.str := by
  rw [List.map_map]
  rfl
def spEven : Sp := fun vs H Q _ => ∃ (p q : Nat), vs = [.int (p : Int), .int (q : Int)] ∧ p ≤ q ∧ q ≤ 12 ∧ ∀ H', Ex H H' → Q (.str (bitsStr (evenBits p q))) H'
theorem sc_signs : FnScope ["p", "q", "places", "k", "place"] ["p", "q"] (defScope s_signs) := ⟨rfl, rfl, rfl, by decide +kernel, rfl, by decide +kernel, by decide +kernel⟩
theorem ok_signs {f : Addr} {fd : FuncData} (F : Fun K "signs" "signs" s_signs f fd) (B : Blt mg) : FnOk P w K mg base CX0 1 f fd ["p", "q"] spEven := by
  have nd := sc_signs.nd
  refine F.ok sc_signs (fun vs H Q E h => ?_) (fun cdv A outer s H vs Q E hr h => ?_)
  · obtain ⟨p, q, rfl, _⟩ := h
    rfl
  · obtain ⟨p, q, rfl, h1, h2, qq⟩ := h
    refine ⟨_, 
    (pss_cons (ps_set (i := 2) nd rfl (Or.inr rfl) (pe_lc (own := [("k", 3)]) (g := gName 3) rfl nd (pi_range1 (by rfl) B.range (pa_cons (pv 0) pa_nil)) (blkOk_by (N := ["p", "q", "places", "k", "place"]) (sc := defScope s_signs) (by decide +kernel)) (fun _ _ _ _ _ => pg_name (i := 3) nd rfl (Or.inl rfl)) (fun _ _ _ _ _ => pts_nil) (fun _ _ _ _ _ => (pe_op op_fdiv (pe_op op_mul (pv 3) (pv 1)) (pv 0)))))
    (pss_one (ps_ret (pe_join pe_str (pe_lc (own := [("place", 4)]) (g := gName 4) rfl nd (pi_range1 (by rfl) B.range (pa_cons (pv 1) pa_nil)) (blkOk_by (N := ["p", "q", "places", "k", "place"]) (sc := defScope s_signs) (by decide +kernel)) (fun _ _ _ _ _ => pg_name (i := 4) nd rfl (Or.inl rfl)) (fun _ _ _ _ _ => pts_nil) (fun _ _ _ _ _ => (pe_ifExp (pt_cmpR (inK (K := K) rfl) (pv 4) (pv 2) (by rfl)) pe_str pe_str))))))), ?_⟩
    try dsimp only [cxOf, Cx.nox, Cx.wish]
    walk_at "go"
    rw [Int.toNat_natCast]
    refine lc_all ((List.range p).map fun k => V.int ((k * q / p : Nat) : Int)) (by simp) Goes.range (by omega) ?_ ?_
    · rintro i x H' hi e rfl R hR
      refine ⟨rfl, ?_⟩
      have hcast : ((0 + (i : Int)) * (q : Int)) / (p : Int) = ((i * q / p : Nat) : Int) := by
        rw [Int.zero_add]
        exact_mod_cast rfl
      walk_at "go"
      refine hR _ _ ?_ (Ex.refl _)
      rw [List.getElem?_map, List.getElem?_range hi]
      exact congrArg (fun z => some (V.int z)) hcast.symm
    intro L H1 nL e1 hL
    walk_at "go"
    refine ⟨⟨_, rfl⟩, ?_⟩
    walk_at "go"
    rw [Int.toNat_natCast]
    refine lc_all ((evenBits p q).map sB) (by unfold evenBits; simp) Goes.range (by omega) ?_ ?_
    · rintro i x H' hi e rfl R hR
      refine ⟨rfl, ?_⟩
      have hL' := e _ _ hL
      walk_at "go"
      refine ⟨?_, ?_⟩
      · rw [List.all_map]
        exact List.all_eq_true.mpr fun _ _ => rfl
      have hin : inV (.int (0 + (i : Int))) ((List.range p).map fun k => V.int ((k * q / p : Nat) : Int)) = (List.range p).any fun k => k * q / p == i := by
        unfold inV
        rw [List.any_map]
        refine congrArg (List.any (List.range p)) (funext fun k => ?_)
        show (((k * q / p : Nat) : Int) == 0 + (i : Int)) = (k * q / p == i)
        rw [Int.zero_add]
        by_cases h : k * q / p = i
        · simp [h]
        · rw [beq_eq_false_iff_ne.mpr h, beq_eq_false_iff_ne]
          omega
      rw [show (if false = true then !inV (.int (0 + (i : Int))) ((List.range p).map fun k => V.int ((k * q / p : Nat) : Int)) else inV (.int (0 + (i : Int))) ((List.range p).map fun k => V.int ((k * q / p : Nat) : Int))) = _ from hin]
      have hget : ((evenBits p q).map sB)[i]? = some (sB ((List.range p).any fun k => k * q / p == i)) := by
        unfold evenBits
        rw [List.getElem?_map, List.getElem?_map, List.getElem?_range hi]
        rfl
      generalize ((List.range p).any fun k => k * q / p == i) = bb at hget ⊢
      walk_at "go"
      cases bb with
      | true => exact hR _ _ hget (by walk_at "ex")
      | false => exact hR _ _ hget (by walk_at "ex")
    intro L2 H2 nL2 e2 hL2
    walk_at "go"
    rw [bits_map] at hL2
    refine ⟨_, L2, _, rfl, rfl, .inl (.of hL2), ?_, ?_⟩
    · rw [strs_sum, show (Str.ofString "").length = 0 by decide +kernel]
      unfold evenBits
      simp
      omega
    rw [join_bits]
    exact qq _ (by walk_at "ex")
def spRatio (K : PySem.W.Frag) : Sp := fun vs H Q _ => ∃ (a : Addr) (x y : Int), vs = [.ref a] ∧ SqT K H a [.int x, .int y] ∧ Q (.bl (decide (1 ≤ x) && decide (x ≤ 12) && (decide (2 * x ≤ y) && decide (y ≤ 12)))) H

theorem sc_reduced : FnScope ["top", "bottom", "common"] ["top", "bottom"] (defScope s_reduced) := ⟨rfl, rfl, rfl, by decide +kernel, rfl, by decide +kernel, by decide +kernel⟩
theorem ok_reduced {f : Addr} {fd : FuncData} (F : Fun K "reduced" "reduced" s_reduced f fd) (c_divisor : Dn P w K mg base 1 "divisor" spDivisor) : FnOk P w K mg base CX0 2 f fd ["top", "bottom"] spReduced := by
  have nd := sc_reduced.nd
  refine F.ok sc_reduced (fun vs H Q E h => ?_) (fun cdv A outer s H vs Q E hr h => ?_)
  · obtain ⟨x, y, rfl, _⟩ := h
    rfl
  · obtain ⟨x, y, rfl, hx, hy, g0, g1, q⟩ := h
    refine ⟨_, 
    (pss_cons (ps_set (i := 2) nd rfl (Or.inl rfl) (pe_d c_divisor hr (by decide) passL (by rfl) (pa_cons (pv 0) (pa_cons (pv 1) pa_nil))))
    (pss_one (ps_ret (pe_tupN (pa_cons (pe_op op_fdiv (pv 0) (pv 2)) (pa_cons (pe_op op_fdiv (pv 1) (pv 2)) pa_nil)))))), ?_⟩
    try dsimp only [cxOf, Cx.nox, Cx.wish]
    walk_at "go"
    exact q
def ratioB (r : Int × Int) : Bool := decide (1 ≤ r.1) && decide (r.1 ≤ 12) && (decide (2 * r.1 ≤ r.2) && decide (r.2 ≤ 12))
def stockB (st : List (Int × Int)) : Bool := decide (1 ≤ st.length) && decide (st.length ≤ 5) && st.all ratioB
theorem ratioB_ok {r : Int × Int} : ratioB r = true ↔ RatioOk r := by
  unfold ratioB
  simp only [Bool.and_eq_true, decide_eq_true_eq]
  constructor
  · rintro ⟨⟨h1, h2⟩, h3, h4⟩
    exact ⟨h1, h3, h4⟩
  · rintro ⟨h1, h3, h4⟩
    exact ⟨⟨h1, by omega⟩, h3, h4⟩
theorem stockB_ok {st : List (Int × Int)} (h : StockOk st) : stockB st = true := by
  unfold stockB
  rw [decide_eq_true h.lo, decide_eq_true h.hi]
  exact List.all_eq_true.mpr fun r hr => ratioB_ok.mpr (h.all r hr)
def pairD (r : Int × Int) : PyData := .tuple [.int r.1, .int r.2]
theorem pair_dp {H : Hp} {p : Addr} {r : Int × Int} (h : SqT K H p [.int r.1, .int r.2]) : Dp K H (.ref p) (pairD r) := .tup h (.cons (.int _) (.cons (.int _) .nil))
theorem pairs_shaped (l : List (Int × Int)) : SeqAt.shaped (.list (l.map pairD)) = true := by
  refine (shaped_of fun d hd => ?_).1
  obtain ⟨r, _, rfl⟩ := List.mem_map.mp hd
  refine ⟨?_, ?_⟩
  · simp [pairD, PyData.canLay0, PyData.canLayAll0]
  · simp [pairD, PyData.depth, PyData.depthAll]
theorem outs_pairs {H : Hp} {ps : List Addr} {st : List (Int × Int)} (hl : ps.length = st.length) (hr : ∀ (i : Nat) (p : Addr) (r : Int × Int), ps[i]? = some p → st[i]? = some r → SqT K H p [.int r.1, .int r.2]) :
    ∀ n, n ≤ st.length → DpAll K H (outs (fun i => (ps[i]?).bind fun p => (st[i]?).bind fun r => if (!ratioB r) = true then some (V.ref p) else none) n) (((st.take n).filter fun r => !ratioB r).map pairD) := by
  intro n
  induction n with
  | zero => intro _; exact .nil
  | succ n ih =>
    intro hn
    have hp : ps[n]? = some (ps[n]'(by omega)) := List.getElem?_eq_getElem (by omega)
    have hs : st[n]? = some (st[n]'(by omega)) := List.getElem?_eq_getElem (by omega)
    rw [outs_succ, List.take_add_one, List.filter_append, List.map_append, hs]
    refine dpAll_app (ih (by omega)) ?_
    rw [hp]
    show DpAll K H (Option.toList (if (!ratioB (st[n]'(by omega))) = true then some (V.ref (ps[n]'(by omega))) else none)) _
    cases hb : ratioB (st[n]'(by omega)) with
    | true => simp [hb]; exact .nil
    | false => simp [hb]; exact .cons (pair_dp (hr n _ _ hp hs)) .nil
theorem none_left : ∀ st : List (Int × Int), (List.map pairD (List.filter (fun r => !ratioB r) st)).isEmpty = st.all ratioB
  | [] => rfl
  | r :: t => by
    have ih := none_left t
    cases h : ratioB r
    · simp [h]
    · simp only [List.filter_cons, h, List.all_cons, Bool.not_true, Bool.true_and]
      exact ih
def spNeedStock (K : PySem.W.Frag) (C : Addr) : Sp := fun vs H Q E => ∃ (v : V) (st : List (Int × Int)), vs = [v] ∧ StkAt K H v st ∧ st.length ≤ 1000 ∧ (stockB st = true → ∀ H', Ex H H' → Q .non H') ∧ (stockB st = false → ∀ H', Ex H H' → E (.ref C) none H')
def spMade (K : PySem.W.Frag) : Sp := fun vs H Q _ => ∃ (v : V) (st : List (Int × Int)) (b : Addr) (ns : List Int), vs = [v, .ref b] ∧ StkAt K H v st ∧ StockOk st ∧ SqL K H b (ns.map V.int) ∧ (∀ n ∈ ns, 0 ≤ n ∧ n < (st.length : Int)) ∧
  ∀ v' H', Ex H H' → Dp K H' v' (gates st ns).data → Q v' H'

/-! ### beats as the program looks at them -/
def Beat.kids : Beat → List Beat
  | .source => []
  | .every _ _ b | .gate _ b | .later _ b => [b]
  | .two _ a b => [a, b]
  | .led a _ b _ => [a, b]
theorem words_ne : (Str.ofString "every" == Str.ofString "source") = false ∧ (Str.ofString "gate" == Str.ofString "source") = false ∧ (Str.ofString "later" == Str.ofString "source") = false ∧ (Str.ofString "either" == Str.ofString "source") = false ∧ (Str.ofString "both" == Str.ofString "source") = false ∧ (Str.ofString "but" == Str.ofString "source") = false ∧ (Str.ofString "led" == Str.ofString "source") = false ∧
    (Str.ofString "gate" == Str.ofString "every") = false ∧ (Str.ofString "later" == Str.ofString "every") = false ∧ (Str.ofString "either" == Str.ofString "every") = false ∧ (Str.ofString "both" == Str.ofString "every") = false ∧ (Str.ofString "but" == Str.ofString "every") = false ∧ (Str.ofString "led" == Str.ofString "every") = false ∧
    (Str.ofString "later" == Str.ofString "gate") = false ∧ (Str.ofString "either" == Str.ofString "gate") = false ∧ (Str.ofString "both" == Str.ofString "gate") = false ∧ (Str.ofString "but" == Str.ofString "gate") = false ∧ (Str.ofString "led" == Str.ofString "gate") = false ∧
    (Str.ofString "either" == Str.ofString "later") = false ∧ (Str.ofString "both" == Str.ofString "later") = false ∧ (Str.ofString "but" == Str.ofString "later") = false ∧ (Str.ofString "led" == Str.ofString "later") = false ∧
    (Str.ofString "led" == Str.ofString "either") = false ∧ (Str.ofString "led" == Str.ofString "both") = false ∧ (Str.ofString "led" == Str.ofString "but") = false := by decide +kernel
theorem word_is (a b : Str) : isWord a (.str b) = (b == a) := by
  unfold isWord
  rw [PyData.eqv]
theorem signs_ok (bits : List Bool) (h1 : 1 ≤ bits.length) (h2 : bits.length ≤ 12) : areSigns (.str (bitsStr bits)) = true := by
  show (decide (1 ≤ (bitsStr bits).length) && decide ((bitsStr bits).length ≤ 12) && (bitsStr bits).cps.toList.all signOk) = true
  rw [bitsStr_len, decide_eq_true h1, decide_eq_true h2]
  simp only [Bool.true_and]
  show ((bits.map bitC).toArray.toList).all signOk = true
  simp only [List.toList_toArray, List.all_map]
  exact List.all_eq_true.mpr fun b _ => by cases b <;> rfl
theorem inner_data {b : Beat} (h : b.ok) : innerOf b.data = some (b.kids.map Beat.data) := by
  show innerOf b.data = _
  cases b with
  | source =>
    show innerT [.str "source"] = some []
    simp [innerT, atD, word_is]
  | every n k b =>
    obtain ⟨h1, h2, h3, h4⟩ := h
    show innerT [.str "every", .int n, .int k, b.data] = some [b.data]
    have e : isEvery [.str "every", .int n, .int k, b.data] = true := by
      simp [isEvery, isWhole, atD, intD]
      omega
    simp [innerT, atD, word_is, words_ne, e]
  | gate bits b =>
    obtain ⟨h1, h2, h4⟩ := h
    show innerT [.str "gate", .str (bitsStr bits), b.data] = some [b.data]
    simp [innerT, atD, word_is, words_ne, signs_ok bits h1 h2]
  | later m b =>
    obtain ⟨h1, h4⟩ := h
    show innerT [.str "later", .int m, b.data] = some [b.data]
    have e : isWhole 0 99 (.int m) = true := by
      simp [isWhole]
      omega
    simp [innerT, atD, word_is, words_ne, e]
  | two w a b =>
    show innerT [.str w.word, a.data, b.data] = some [a.data, b.data]
    cases w <;> simp [innerT, atD, word_is, words_ne, Two.word]
  | led a many b first =>
    obtain ⟨h1, h2, h4⟩ := h
    show innerT [.str "led", a.data, .int many, b.data, .int first] = some [a.data, b.data]
    have e : isWhole 0 9999 (.int many) = true := by
      simp [isWhole]
      omega
    have e2 : isWhole 0 9999 (.int first) = true := by
      simp [isWhole]
      omega
    simp [innerT, atD, word_is, words_ne, e, e2]
theorem kids_size (b : Beat) : b.size = (b.kids.map Beat.size).sum + 1 := by
  cases b <;> simp [Beat.kids, Beat.size]
theorem kids_ok {b : Beat} (h : b.ok) : ∀ x ∈ b.kids, x.ok := by
  cases b <;> simp [Beat.kids, Beat.ok] at h ⊢ <;> (try exact h.2.2.2) <;> (try exact h.2.2) <;> (try exact h.2) <;> (try exact h)
theorem look_data : ∀ (k : Nat) (l : List Beat), (∀ b ∈ l, b.ok) → (l.map Beat.size).sum ≤ k → lookFrom k (l.map Beat.data) = true
  | k, [], _, _ => by cases k <;> rfl
  | 0, b :: r, _, h => by
    have := kids_size b
    simp at h
    omega
  | k + 1, b :: r, ho, h => by
    show lookFrom (k + 1) (b.data :: r.map Beat.data) = true
    rw [lookFrom, inner_data (ho b List.mem_cons_self)]
    show lookFrom k ((b.kids.map Beat.data).reverse ++ r.map Beat.data) = true
    rw [← List.map_reverse, ← List.map_append]
    refine look_data k _ (fun x hx => ?_) ?_
    · rcases List.mem_append.mp hx with hx | hx
      · exact kids_ok (ho b List.mem_cons_self) x (List.mem_reverse.mp hx)
      · exact ho x (List.mem_cons_of_mem _ hx)
    · have := kids_size b
      simp only [List.map_cons, List.sum_cons] at h
      simp only [List.map_append, List.sum_append, List.map_reverse, List.sum_reverse]
      omega
theorem beat_is {b : Beat} (h : b.ok) (hs : b.size ≤ 30) : isBeatD b.data = true := by
  have := look_data 30 [b] (fun x hx => by rw [List.mem_singleton.mp hx]; exact h) (by simp; exact hs)
  exact this
theorem bits_strOk (bits : List Bool) : PyData.strOk (bitsStr bits) = true := by
  unfold PyData.strOk bitsStr
  simp only [List.all_toArray, List.all_map]
  exact List.all_eq_true.mpr fun b _ => by cases b <;> rfl
theorem data_depth : ∀ b : Beat, PyData.depth b.data ≤ b.size
  | .source => by simp [Beat.data, PyData.depth, PyData.depthAll, Beat.size]
  | .every n k b => by
    have := data_depth b
    simp [Beat.data, PyData.depth, PyData.depthAll, Beat.size]
    omega
  | .gate bits b => by
    have := data_depth b
    simp [Beat.data, PyData.depth, PyData.depthAll, Beat.size]
    omega
  | .later m b => by
    have := data_depth b
    simp [Beat.data, PyData.depth, PyData.depthAll, Beat.size]
    omega
  | .two w a b => by
    have := data_depth a
    have := data_depth b
    simp [Beat.data, PyData.depth, PyData.depthAll, Beat.size]
    omega
  | .led a many b first => by
    have := data_depth a
    have := data_depth b
    simp [Beat.data, PyData.depth, PyData.depthAll, Beat.size]
    omega
theorem words_str : PyData.strOk (Str.ofString "source") = true ∧ PyData.strOk (Str.ofString "every") = true ∧ PyData.strOk (Str.ofString "gate") = true ∧ PyData.strOk (Str.ofString "later") = true ∧ PyData.strOk (Str.ofString "either") = true ∧ PyData.strOk (Str.ofString "both") = true ∧ PyData.strOk (Str.ofString "but") = true ∧ PyData.strOk (Str.ofString "led") = true := by decide +kernel
theorem word_str (w : Two) : PyData.strOk w.word = true := by
  cases w <;> simp [Two.word, words_str]
theorem data_lay : ∀ b : Beat, PyData.canLay0 b.data = true
  | .source => by simp [Beat.data, PyData.canLay0, PyData.canLayAll0, words_str]
  | .every n k b => by simp [Beat.data, PyData.canLay0, PyData.canLayAll0, words_str, data_lay b]
  | .gate bits b => by simp [Beat.data, PyData.canLay0, PyData.canLayAll0, words_str, bits_strOk, data_lay b]
  | .later m b => by simp [Beat.data, PyData.canLay0, PyData.canLayAll0, words_str, data_lay b]
  | .two w a b => by simp [Beat.data, PyData.canLay0, PyData.canLayAll0, word_str, data_lay a, data_lay b]
  | .led a many b first => by simp [Beat.data, PyData.canLay0, PyData.canLayAll0, words_str, data_lay a, data_lay b]
theorem data_shaped {b : Beat} (h : b.size ≤ 63) : SeqAt.shaped b.data = true := shaped_iff.mpr ⟨data_lay b, Nat.le_trans (data_depth b) (by omega)⟩
theorem len_words : (Str.ofString "source").length ≤ 1000000 ∧ (Str.ofString "every").length ≤ 1000000 ∧ (Str.ofString "gate").length ≤ 1000000 ∧ (Str.ofString "later").length ≤ 1000000 ∧ (Str.ofString "either").length ≤ 1000000 ∧ (Str.ofString "both").length ≤ 1000000 ∧ (Str.ofString "but").length ≤ 1000000 ∧ (Str.ofString "led").length ≤ 1000000 := by decide +kernel
theorem small_str {s : Str} (h : s.length ≤ 1000000) (h2 : PyData.strOk s = true) : textSmall (.str s) = true := by
  show (decide (s.length ≤ 1000000) && PyData.strOk s) = true
  rw [decide_eq_true h, h2]
  rfl
theorem small_data (b : Beat) : textSmall b.data = true := by cases b <;> rfl
theorem fine_int (i : Int) : fine (.int i) = true := by
  simp [fine, finB, dGood, headFlat, PyData.depth, shaped_iff, PyData.canLay0]
theorem fine_str {s : Str} (h2 : PyData.strOk s = true) : fine (.str s) = true := by
  simp [fine, finB, dGood, headFlat, PyData.depth, shaped_iff, PyData.canLay0, h2]
theorem fine_tup {w : Str} {r : List PyData} (hs : SeqAt.shaped (.tuple (.str w :: r)) = true) (hd : PyData.depth (.tuple (.str w :: r)) ≤ 63) (ht : textSmall (.str w) = true) (hts : ∀ d ∈ r, textSmall d = true) (hf : ∀ d ∈ r, fine d = true) : fine (.tuple (.str w :: r)) = true := by
  have h1 := (shaped_iff.mp (shaped_cons hs).1).1
  rw [PyData.canLay0] at h1
  rw [fine, Bool.and_eq_true]
  refine ⟨?_, ?_⟩
  · unfold finB dGood
    rw [hs, decide_eq_true hd]
    simp only [headFlat, flatD, Bool.true_and, Bool.and_true, List.all_cons, ht]
    exact List.all_eq_true.mpr hts
  · rw [fineAll, fine_str h1, Bool.true_and]
    have : ∀ l : List PyData, (∀ d ∈ l, fine d = true) → fineAll l = true := by
      intro l
      induction l with
      | nil => intro _; rfl
      | cons d r ih =>
        intro h
        rw [fineAll, h d List.mem_cons_self, ih fun x hx => h x (List.mem_cons_of_mem _ hx)]
        rfl
    exact this r hf
theorem small_bits {bits : List Bool} (h : bits.length ≤ 12) : textSmall (.str (bitsStr bits)) = true := small_str (by rw [bitsStr_len]; omega) (bits_strOk bits)
theorem data_fine : ∀ b : Beat, b.ok → b.size ≤ 63 → fine b.data = true
  | .source, _, _ => fine_tup (data_shaped (b := .source) (by decide)) (by simp [PyData.depth, PyData.depthAll]) (small_str len_words.1 words_str.1) (fun d hd => (nomatch hd)) (fun d hd => (nomatch hd))
  | .every n k b, h, hs => by
    have hs' : b.size + 1 ≤ 63 := hs
    have hb := data_fine b h.2.2.2 (by omega)
    refine fine_tup (data_shaped (b := .every n k b) hs) (Nat.le_trans (data_depth (.every n k b)) hs) (small_str len_words.2.1 words_str.2.1) (fun d hd => ?_) (fun d hd => ?_)
    · simp only [List.mem_cons, List.not_mem_nil, or_false] at hd
      rcases hd with rfl | rfl | rfl
      · rfl
      · rfl
      · exact small_data b
    · simp only [List.mem_cons, List.not_mem_nil, or_false] at hd
      rcases hd with rfl | rfl | rfl
      · exact fine_int _
      · exact fine_int _
      · exact hb
  | .gate bits b, h, hs => by
    have hs' : b.size + 1 ≤ 63 := hs
    have hb := data_fine b h.2.2 (by omega)
    refine fine_tup (data_shaped (b := .gate bits b) hs) (Nat.le_trans (data_depth (.gate bits b)) hs) (small_str len_words.2.2.1 words_str.2.2.1) (fun d hd => ?_) (fun d hd => ?_)
    · simp only [List.mem_cons, List.not_mem_nil, or_false] at hd
      rcases hd with rfl | rfl
      · exact small_bits h.2.1
      · exact small_data b
    · simp only [List.mem_cons, List.not_mem_nil, or_false] at hd
      rcases hd with rfl | rfl
      · exact fine_str (bits_strOk bits)
      · exact hb
  | .later m b, h, hs => by
    have hs' : b.size + 1 ≤ 63 := hs
    have hb := data_fine b h.2 (by omega)
    refine fine_tup (data_shaped (b := .later m b) hs) (Nat.le_trans (data_depth (.later m b)) hs) (small_str len_words.2.2.2.1 words_str.2.2.2.1) (fun d hd => ?_) (fun d hd => ?_)
    · simp only [List.mem_cons, List.not_mem_nil, or_false] at hd
      rcases hd with rfl | rfl
      · rfl
      · exact small_data b
    · simp only [List.mem_cons, List.not_mem_nil, or_false] at hd
      rcases hd with rfl | rfl
      · exact fine_int _
      · exact hb
  | .two w a b, h, hs => by
    have hs' : a.size + b.size + 1 ≤ 63 := hs
    have ha := data_fine a h.1 (by omega)
    have hb := data_fine b h.2 (by omega)
    refine fine_tup (data_shaped (b := .two w a b) hs) (Nat.le_trans (data_depth (.two w a b)) hs) (small_str (by cases w <;> simp [Two.word, len_words]) (word_str w)) (fun d hd => ?_) (fun d hd => ?_)
    · simp only [List.mem_cons, List.not_mem_nil, or_false] at hd
      rcases hd with rfl | rfl
      · exact small_data a
      · exact small_data b
    · simp only [List.mem_cons, List.not_mem_nil, or_false] at hd
      rcases hd with rfl | rfl
      · exact ha
      · exact hb
  | .led a many b first, h, hs => by
    have hs' : a.size + b.size + 1 ≤ 63 := hs
    have ha := data_fine a h.2.2.1 (by omega)
    have hb := data_fine b h.2.2.2 (by omega)
    refine fine_tup (data_shaped (b := .led a many b first) hs) (Nat.le_trans (data_depth (.led a many b first)) hs) (small_str len_words.2.2.2.2.2.2.2 words_str.2.2.2.2.2.2.2) (fun d hd => ?_) (fun d hd => ?_)
    · simp only [List.mem_cons, List.not_mem_nil, or_false] at hd
      rcases hd with rfl | rfl | rfl | rfl
      · exact small_data a
      · rfl
      · exact small_data b
      · rfl
    · simp only [List.mem_cons, List.not_mem_nil, or_false] at hd
      rcases hd with rfl | rfl | rfl | rfl
      · exact ha
      · exact fine_int _
      · exact hb
      · exact fine_int _

/-! ### forms of beats -/
def Beat.simple : Beat → Prop
  | .source => True
  | .every _ _ b | .gate _ b | .later _ b => b.simple
  | .two _ _ _ | .led _ _ _ _ => False
/-- a form but for what is too late -/
def mk : Beat → Option Form
  | .source => some ⟨[], [0], 1⟩
  | .every n k b => (fm b).bind fun f => gated f (everyBits n k)
  | .gate bits b => (fm b).bind fun f => gated f bits
  | .later m b => (fm b).bind fun f => some (laterF f m)
  | .two w a b => (fm a).bind fun f => (fm b).bind fun g => ofTwo w f g
  | .led a many b first => (fm a).bind fun f => (fm b).bind fun g => some (ledForm f many g first)
theorem fm_mk (b : Beat) : fm b = (mk b).bind checked := by
  cases b <;> simp [fm, mk, Option.bind_assoc]
/-- what is known of a form told -/
structure Told (f : Form) : Prop where
  wf : WF f
  late : lateOf f ≤ 5040
theorem Told.few {f : Form} (t : Told f) : Few f := few_of t.wf t.late
theorem source_wf : WF ⟨[], [0], 1⟩ := ⟨by simp, by simp, fun z => (nomatch z), fun _ => ⟨by simp, by show (0 : Int) < 1; decide, by show (0 : Int) < 0 + 1; decide⟩, by show (1 : Int) ≤ 5040; decide⟩
theorem every_len {n k : Nat} (h : k < n) : (everyBits n k).length = n := by
  unfold everyBits
  simp
  omega
structure ToldOf (allow : Prop) : Prop where
  two : allow → ∀ w f g h, Told f → Told g → ofTwo w f g = some h → WF h
  led : allow → ∀ f many g first, Told f → Told g → WF (ledForm f many g first)
theorem ToldOf.never : ToldOf False := ⟨fun h => h.elim, fun h => h.elim⟩
theorem fm_told {allow : Prop} (T : ToldOf allow) : ∀ b : Beat, b.ok → (allow ∨ b.simple) → ∀ f, fm b = some f → Told f := by
  have wrap : ∀ b : Beat, (∀ g, mk b = some g → WF g) → ∀ f, fm b = some f → Told f := fun b h f e => by
    rw [fm_mk] at e
    obtain ⟨g, e1, e2⟩ := Option.bind_eq_some_iff.mp e
    obtain ⟨rfl, hl⟩ := checked_some e2
    exact ⟨h _ e1, hl⟩
  intro b
  induction b with
  | source =>
    intro _ _
    refine wrap _ fun g e => ?_
    cases e
    exact source_wf
  | every n k b ih =>
    intro h hs
    refine wrap _ fun g e => ?_
    obtain ⟨f, e1, e2⟩ := Option.bind_eq_some_iff.mp e
    have hf := ih h.2.2.2 hs f e1
    exact gated_wf hf.wf (by rw [every_len h.2.2.1]; exact h.1) e2
  | gate bits b ih =>
    intro h hs
    refine wrap _ fun g e => ?_
    obtain ⟨f, e1, e2⟩ := Option.bind_eq_some_iff.mp e
    have hf := ih h.2.2 hs f e1
    exact gated_wf hf.wf h.1 e2
  | later m b ih =>
    intro h hs
    refine wrap _ fun g e => ?_
    obtain ⟨f, e1, e2⟩ := Option.bind_eq_some_iff.mp e
    cases e2
    exact later_wf (ih h.2 hs f e1).wf m
  | two w a b iha ihb =>
    intro h hs
    have ha : allow := hs.resolve_right fun z => z
    refine wrap _ fun g e => ?_
    obtain ⟨f, e1, e2⟩ := Option.bind_eq_some_iff.mp e
    obtain ⟨g', e3, e4⟩ := Option.bind_eq_some_iff.mp e2
    exact T.two ha w f g' g (iha h.1 (.inl ha) f e1) (ihb h.2 (.inl ha) g' e3) e4
  | led a many b first iha ihb =>
    intro h hs
    have ha : allow := hs.resolve_right fun z => z
    refine wrap _ fun g e => ?_
    obtain ⟨f, e1, e2⟩ := Option.bind_eq_some_iff.mp e
    obtain ⟨g', e3, e4⟩ := Option.bind_eq_some_iff.mp e2
    cases e4
    exact T.led ha f many g' first (iha h.2.2.1 (.inl ha) f e1) (ihb h.2.2.2 (.inl ha) g' e3)
theorem kids_small {allow : Prop} {b : Beat} (h : allow ∨ b.simple) : ∀ x ∈ b.kids, allow ∨ x.simple := by
  rcases h with h | h
  · exact fun x _ => .inl h
  · cases b <;> simp [Beat.kids, Beat.simple] at h ⊢ <;> exact .inr h
/-- of two beats' forms -/
def spTwo (allow : Prop) (C : Addr) : Sp := fun vs H Q E => ∃ (w : Two) (v1 v2 : V) (f g : Form), vs = [.str w.word, v1, v2] ∧ allow ∧ FormAt H v1 f ∧ FormAt H v2 g ∧ Told f ∧ Told g ∧
  (∀ h, ofTwo w f g = some h → ∀ v' H', Ex H H' → FormNew H H' v' h → Q v' H') ∧ (ofTwo w f g = none → ∀ H', Ex H H' → E (.ref C) none H')
def spLed (allow : Prop) : Sp := fun vs H Q _ => ∃ (v1 v2 : V) (f g : Form) (many first : Nat), vs = [v1, .int (many : Int), v2, .int (first : Int)] ∧ allow ∧ many ≤ 9999 ∧ first ≤ 9999 ∧ FormAt H v1 f ∧ FormAt H v2 g ∧ Told f ∧ Told g ∧
  ∀ v' H', Ex H H' → FormNew H H' v' (ledForm f many g first) → Q v' H'
/-- a beat of at most n tuples -/
def spMk (K : PySem.W.Frag) (allow : Prop) (C : Addr) (n : Nat) : Sp := fun vs H Q E => ∃ (v : V) (b : Beat), vs = [v] ∧ Dp K H v b.data ∧ b.ok ∧ (allow ∨ b.simple) ∧ b.size ≤ n ∧
  (∀ f, mk b = some f → ∀ v' H', Ex H H' → FormNew H H' v' f → Q v' H') ∧ (mk b = none → ∀ H', Ex H H' → E (.ref C) none H')
def spFm (K : PySem.W.Frag) (allow : Prop) (C : Addr) (n : Nat) : Sp := fun vs H Q E => ∃ (v : V) (b : Beat), vs = [v] ∧ Dp K H v b.data ∧ b.ok ∧ (allow ∨ b.simple) ∧ b.size ≤ n ∧
  (∀ f, fm b = some f → Told f → ∀ v' H', Ex H H' → FormNew H H' v' f → Q v' H') ∧ (fm b = none → ∀ H', Ex H H' → E (.ref C) none H')
theorem sc_form_of : FnScope ["beat", "found", "front", "ticks", "length"] ["beat"] (defScope s_form_of) := ⟨rfl, rfl, rfl, by decide +kernel, rfl, by decide +kernel, by decide +kernel⟩
theorem step_form_of {allow : Prop} (T : ToldOf allow) {f C : Addr} {fd : FuncData} (F : Fun K "form_of" "form_of" s_form_of f fd) (B : Blt mg) {n k : Nat} (h1 : 1 ≤ k) (c_made_of : Dn P w K mg base k "made_of" (spMk K allow C n)) (c_need_short : Dn P w K mg base 1 "need_short" (spShort C)) :
    FnOk P w K mg base (L2.CX P w) (k + 1) f fd ["beat"] (spFm K allow C n) := by
  have nd := sc_form_of.nd
  refine F.okX sc_form_of (fun vs H Q E h => ?_) (fun cdv A outer s H vs Q E hr h => ?_)
  · obtain ⟨v, b, rfl, _⟩ := h
    rfl
  · obtain ⟨v, b, rfl, hd, hok, hal, hs, q1, q2⟩ := h
    refine ⟨_, 
    (pss_cons (ps_set (i := 1) nd rfl (Or.inl rfl) (pe_d c_made_of hr (by omega) (passes_call (takes_of rfl rfl rfl rfl) fun _ _ _ _ h => h) (by rfl) (pa_cons (pv 0) pa_nil)))
    (pss_cons (ps_asg (pv 1) (pg_tup rfl (pgs_cons (pg_name (i := 2) nd rfl (Or.inl rfl)) (pgs_cons (pg_name (i := 3) nd rfl (Or.inl rfl)) (pgs_cons (pg_name (i := 4) nd rfl (Or.inl rfl)) pgs_nil)))))
    (pss_cons (ps_expr (pe_d c_need_short hr (by omega) (passes_call (takes_of rfl rfl rfl rfl) fun _ _ _ _ h => h) (by rfl) (pa_cons (pe_ix (ixl (K := K) rfl) (pe_op op_catN (pe_op op_catN (pe_slice (slK (K := K) rfl) (pv 3) po_none (po_some pe_int)) (pe_slice (slK (K := K) rfl) (pv 2) (po_some (pe_un un_neg pe_int)) po_none)) (pe_lstN (pa_cons pe_int pa_nil))) pe_int (fun _ _ => rfl)) pa_nil)))
    (pss_one (ps_ret (pv 1)))))), ?_⟩
    try dsimp only [cxOf, Cx.nox, Cx.wish]
    walk_at "go"
    refine ⟨fun g hg v' H1 e1 hn => ?_, fun hg H1 e1 => q2 (by rw [fm_mk, hg]; rfl) H1 e1⟩
    have hfm : fm b = checked g := by rw [fm_mk, hg]; rfl
    have hn0 := hn
    obtain ⟨p, a, c, ⟨rfl, ht, ha, hb⟩, np, na, nb, hne⟩ := hn
    walk_at "go"
    refine nL_intro fun x1 H2 n1 e2 hx1 => ?_
    rw [show (1 : Int) = ((1 : Nat) : Int) from rfl, cut_to, ← List.map_take] at hx1
    walk_at "go"
    refine nL_intro fun x2 H3 n2 e3 hx2 => ?_
    rw [cut_end, List.length_map, ← List.map_drop] at hx2
    walk_at "go"
    have lx1 : ((g.round.take 1).map V.int).length ≤ 1 := by rw [List.length_map, List.length_take]; omega
    have lx2 : ((g.front.drop (g.front.length - 1)).map V.int).length ≤ 1 := by rw [List.length_map, List.length_drop]; omega
    refine ⟨x1, x2, _, _, rfl, rfl, e3 _ _ hx1, hx2, Nat.le_trans (Nat.add_le_add lx1 lx2) (by decide), ?_⟩
    rw [← List.map_append]
    refine nL_intro fun x3 H4 n3 e4 hx3 => ?_
    walk_at "go"
    refine nL_intro fun x4 H5 n4 e5 hx4 => ?_
    refine ⟨x3, x4, _, [.int 0], rfl, rfl, e5 _ _ hx3, hx4, ?_, ?_⟩
    · rw [List.map_append, List.length_append]
      exact Nat.le_trans (Nat.add_le_add (Nat.add_le_add lx1 lx2) (Nat.le_refl 1)) (by decide)
    rw [show [V.int 0] = ([0] : List Int).map V.int from rfl, ← List.map_append]
    refine nL_intro fun x5 H6 n5 e6 hx5 => ?_
    walk_at "go"
    refine ⟨x5, _, 0, _, rfl, rfl, .of hx5, atI_headI (by simp), ?_⟩
    walk_at "go"
    have e16 : Ex H1 H6 := by walk_at "ex"
    have hl : (g.round.take 1 ++ g.front.drop (g.front.length - 1) ++ [0]).headD 0 = lateOf g := rfl
    rw [hl]
    refine ⟨fun hle => ?_, fun hgt => q2 (by rw [hfm]; unfold checked; rw [if_pos (by omega)]) _ (e1.trans e16)⟩
    have hfs : fm b = some g := by rw [hfm]; unfold checked; rw [if_neg (by omega)]
    walk_at "go"
    refine q1 g hfs (fm_told T b hok hal g hfs) _ _ (e1.trans e16) ?_
    exact ⟨p, a, c, ⟨rfl, e16 _ _ ht, e16 _ _ ha, e16 _ _ hb⟩, np, na, nb, hne⟩
theorem bits_app (a b : List Bool) : bitsStr (a ++ b) = bitsStr a ++ bitsStr b := by
  show (⟨((a ++ b).map bitC).toArray⟩ : Str) = ⟨(a.map bitC).toArray ++ (b.map bitC).toArray⟩
  simp
theorem sc_made_of : FnScope ["beat", "word"] ["beat"] (defScope s_made_of) := ⟨rfl, rfl, rfl, by decide +kernel, rfl, by decide +kernel, by decide +kernel⟩
theorem step_made_of {allow : Prop} {f C : Addr} {fd : FuncData} (F : Fun K "made_of" "made_of" s_made_of f fd) (B : Blt mg) {n k : Nat} (h1 : 9 ≤ k) (c_form_of : Dn P w K mg base k "form_of" (spFm K allow C n))
    (c_gated : Dn P w K mg base 3 "gated" (spGated C)) (c_later : Dn P w K mg base 1 "later" spLater) (c_of_two : Dn P w K mg base 9 "of_two" (spTwo allow C)) (c_led_form : Dn P w K mg base 9 "led_form" (spLed allow)) :
    FnOk P w K mg base (L2.CX P w) (k + 1) f fd ["beat"] (spMk K allow C (n + 1)) := by
  have nd := sc_made_of.nd
  refine F.okX sc_made_of (fun vs H Q E h => ?_) (fun cdv A outer s H vs Q E hr h => ?_)
  · obtain ⟨v, b, rfl, _⟩ := h
    rfl
  · obtain ⟨v, b, rfl, hd, hok, hal, hs, q1, q2⟩ := h
    refine ⟨_, 
    (pss_cons (ps_set (i := 1) nd rfl (Or.inl rfl) (pe_ix (ixt (K := K) rfl) (pv 0) pe_int (fun _ _ => rfl)))
    (pss_cons (ps_if (pt_cmpR op_eq (pv 1) pe_str (nomark _)) (pss_one (ps_ret (pe_tupN (pa_cons (pe_lstN pa_nil) (pa_cons (pe_lstN (pa_cons pe_int pa_nil)) (pa_cons pe_int pa_nil)))))) pss_nil)
    (pss_cons (ps_if (pt_cmpR op_eq (pv 1) pe_str (nomark _)) (pss_one (ps_ret (pe_d c_gated hr (by omega) (passes_call (takes_of rfl rfl rfl rfl) fun _ _ _ _ h => h) (by rfl) (pa_cons (pe_d c_form_of hr (by omega) (passes_call (takes_of rfl rfl rfl rfl) fun _ _ _ _ h => h) (by rfl) (pa_cons (pe_ix (ixt (K := K) rfl) (pv 0) pe_int (fun _ _ => rfl)) pa_nil)) (pa_cons (pe_op op_add_str (pe_op op_add_str (pe_op mulStr pe_str (pe_ix (ixt (K := K) rfl) (pv 0) pe_int (fun _ _ => rfl))) pe_str) (pe_op mulStr pe_str (pe_op op_sub (pe_op op_sub (pe_ix (ixt (K := K) rfl) (pv 0) pe_int (fun _ _ => rfl)) pe_int) (pe_ix (ixt (K := K) rfl) (pv 0) pe_int (fun _ _ => rfl))))) pa_nil))))) pss_nil)
    (pss_cons (ps_if (pt_cmpR op_eq (pv 1) pe_str (nomark _)) (pss_one (ps_ret (pe_d c_gated hr (by omega) (passes_call (takes_of rfl rfl rfl rfl) fun _ _ _ _ h => h) (by rfl) (pa_cons (pe_d c_form_of hr (by omega) (passes_call (takes_of rfl rfl rfl rfl) fun _ _ _ _ h => h) (by rfl) (pa_cons (pe_ix (ixt (K := K) rfl) (pv 0) pe_int (fun _ _ => rfl)) pa_nil)) (pa_cons (pe_ix (ixt (K := K) rfl) (pv 0) pe_int (fun _ _ => rfl)) pa_nil))))) pss_nil)
    (pss_cons (ps_if (pt_cmpR op_eq (pv 1) pe_str (nomark _)) (pss_one (ps_ret (pe_d c_later hr (by omega) (passes_call (takes_of rfl rfl rfl rfl) fun _ _ _ _ h => h) (by rfl) (pa_cons (pe_d c_form_of hr (by omega) (passes_call (takes_of rfl rfl rfl rfl) fun _ _ _ _ h => h) (by rfl) (pa_cons (pe_ix (ixt (K := K) rfl) (pv 0) pe_int (fun _ _ => rfl)) pa_nil)) (pa_cons (pe_ix (ixt (K := K) rfl) (pv 0) pe_int (fun _ _ => rfl)) pa_nil))))) pss_nil)
    (pss_cons (ps_if (pt_cmpR op_eq (pv 1) pe_str (nomark _)) (pss_one (ps_ret (pe_d c_led_form hr (by omega) (passes_call (takes_of rfl rfl rfl rfl) fun _ _ _ _ h => h) (by rfl) (pa_cons (pe_d c_form_of hr (by omega) (passes_call (takes_of rfl rfl rfl rfl) fun _ _ _ _ h => h) (by rfl) (pa_cons (pe_ix (ixt (K := K) rfl) (pv 0) pe_int (fun _ _ => rfl)) pa_nil)) (pa_cons (pe_ix (ixt (K := K) rfl) (pv 0) pe_int (fun _ _ => rfl)) (pa_cons (pe_d c_form_of hr (by omega) (passes_call (takes_of rfl rfl rfl rfl) fun _ _ _ _ h => h) (by rfl) (pa_cons (pe_ix (ixt (K := K) rfl) (pv 0) pe_int (fun _ _ => rfl)) pa_nil)) (pa_cons (pe_ix (ixt (K := K) rfl) (pv 0) pe_int (fun _ _ => rfl)) pa_nil))))))) pss_nil)
    (pss_one (ps_ret (pe_d c_of_two hr (by omega) (passes_call (takes_of rfl rfl rfl rfl) fun _ _ _ _ h => h) (by rfl) (pa_cons (pv 1) (pa_cons (pe_d c_form_of hr (by omega) (passes_call (takes_of rfl rfl rfl rfl) fun _ _ _ _ h => h) (by rfl) (pa_cons (pe_ix (ixt (K := K) rfl) (pv 0) pe_int (fun _ _ => rfl)) pa_nil)) (pa_cons (pe_d c_form_of hr (by omega) (passes_call (takes_of rfl rfl rfl rfl) fun _ _ _ _ h => h) (by rfl) (pa_cons (pe_ix (ixt (K := K) rfl) (pv 0) pe_int (fun _ _ => rfl)) pa_nil)) pa_nil)))))))))))), ?_⟩
    try dsimp only [cxOf, Cx.nox, Cx.wish]
    cases b with
    | source =>
      cases hd with
      | tup hs ha =>
      cases ha with
      | cons h0 hr0 =>
      cases h0
      cases hr0
      walk_at "go"
      refine nL_intro fun x1 H1 n1 e1 hx1 => ?_
      walk_at "go"
      refine nL_intro fun x2 H2 n2 e2 hx2 => ?_
      walk_at "go"
      refine nT_intro fun p H3 np e3 hp => ?_
      exact q1 _ rfl _ _ (by walk_at "ex") (FormNew.mk3 (f := ⟨[], [0], 1⟩) (H1 := H1) e1 n1 (e1.back n2) np (ne_of_none hx1 n2) e2 e3 (e2 _ _ hx1) hx2 hp)
    | every n' k' b =>
      cases hd with
      | tup hs0 ha =>
      cases ha with
      | cons h0 hr0 =>
      cases h0
      cases hr0 with
      | cons h1 hr1 =>
      cases h1
      cases hr1 with
      | cons h2 hr2 =>
      cases h2
      cases hr2 with
      | cons h3 hr3 =>
      cases hr3
      obtain ⟨o1, o2, o3, o4⟩ := hok
      walk_at "go"
      refine ⟨by have : b.size + 1 ≤ n + 1 := hs; omega, fun f1 e1 t1 v1 H1 x1 hn1 => ?_, fun en H1 x1 => q2 (by simp [mk, en]) _ x1⟩
      walk_at "go"
      refine ⟨(k' : Int), rfl, rfl, by omega, by omega, ?_⟩
      rw [Int.toNat_natCast]
      have w1 : Str.ofString "1" = bitsStr [true] := by decide +kernel
      refine ⟨_, _, rfl, rfl, ?_, ?_⟩
      · rw [w1, bitsStr_len, bitsStr_len, List.length_replicate]
        exact Nat.le_trans (show k' + 1 ≤ 100 by omega) (by decide)
      walk_at "go"
      refine ⟨(n' : Int) - 1 - (k' : Int), rfl, rfl, by omega, by omega, ?_⟩
      rw [show ((n' : Int) - 1 - (k' : Int)).toNat = n' - 1 - k' by omega, w1, ← bits_app]
      refine ⟨_, _, rfl, rfl, ?_, ?_⟩
      · rw [bitsStr_len, bitsStr_len, List.length_append, List.length_replicate, List.length_replicate]
        exact Nat.le_trans (show k' + 1 + (n' - 1 - k') ≤ 100 by omega) (by decide)
      rw [← bits_app, show List.replicate k' false ++ [true] ++ List.replicate (n' - 1 - k') false = everyBits n' k' by unfold everyBits; simp]
      have hl := every_len (n := n') (k := k') (by omega)
      exact ⟨v1, f1, everyBits n' k', rfl, hn1.at, by omega, by omega, t1.few, fun g hg v' H' e' hn' => q1 g (by simp [mk, e1, hg]) v' H' (x1.trans e') (hn'.from x1), fun hg H' e' => q2 (by simp [mk, e1, hg]) _ (x1.trans e')⟩
    | gate bits b =>
      cases hd with
      | tup hs0 ha =>
      cases ha with
      | cons h0 hr0 =>
      cases h0
      cases hr0 with
      | cons h1 hr1 =>
      cases h1
      cases hr1 with
      | cons h2 hr2 =>
      cases hr2
      walk_at "go"
      refine ⟨hok.2.2, kids_small hal b (by simp [Beat.kids]), by have : b.size + 1 ≤ n + 1 := hs; omega, fun f1 e1 t1 v1 H1 x1 hn1 => ?_, fun en H1 x1 => q2 (by simp [mk, en]) _ x1⟩
      walk_at "go"
      exact ⟨v1, f1, bits, rfl, hn1.at, hok.1, hok.2.1, t1.few, fun g hg v' H' e' hn' => q1 g (by simp [mk, e1, hg]) v' H' (x1.trans e') (hn'.from x1), fun hg H' e' => q2 (by simp [mk, e1, hg]) _ (x1.trans e')⟩
    | later m b =>
      cases hd with
      | tup hs0 ha =>
      cases ha with
      | cons h0 hr0 =>
      cases h0
      cases hr0 with
      | cons h1 hr1 =>
      cases h1
      cases hr1 with
      | cons h2 hr2 =>
      cases hr2
      walk_at "go"
      refine ⟨hok.2, kids_small hal b (by simp [Beat.kids]), by have : b.size + 1 ≤ n + 1 := hs; omega, fun f1 e1 t1 v1 H1 x1 hn1 => ?_, fun en H1 x1 => q2 (by simp [mk, en]) _ x1⟩
      walk_at "go"
      have fw := t1.few
      exact ⟨v1, f1, (m : Int), rfl, hn1.at, by have := fw.front; omega, by have := fw.round; omega, fun v' H' e' hn' => q1 _ (by simp [mk, e1]) v' H' (x1.trans e') (hn'.from x1)⟩
    | two w a b =>
      cases hd with
      | tup hs0 ha =>
      cases ha with
      | cons h0 hr0 =>
      cases h0
      cases hr0 with
      | cons h1 hr1 =>
      cases hr1 with
      | cons h2 hr2 =>
      cases hr2
      have hsz : a.size + b.size + 1 ≤ n + 1 := hs
      cases w <;> (
        walk_at "go"
        refine ⟨hok.1, kids_small hal a (by simp [Beat.kids]), by omega, fun f1 e1 t1 v1 H1 x1 hn1 => ?_, fun en H1 x1 => q2 (by simp [mk, en]) _ x1⟩
        walk_at "go"
        refine ⟨_, b, rfl, x1.dp h2, hok.2, kids_small hal b (by simp [Beat.kids]), by omega, fun f2 e2 t2 v2 H2 x2 hn2 => ?_, fun en H2 x2 => q2 (by simp [mk, e1, en]) _ (x1.trans x2)⟩
        walk_at "go"
        exact ⟨_, v1, v2, f1, f2, rfl, hal.resolve_right (fun z => z), hn1.at.ext x2, hn2.at, t1, t2, fun g hg v' H' e' hn' => q1 g (by simp [mk, e1, e2, hg]) v' H' (x1.trans (x2.trans e')) (hn'.from (x1.trans x2)), fun hg H' e' => q2 (by simp [mk, e1, e2, hg]) _ (x1.trans (x2.trans e'))⟩)
    | led a many b first =>
      cases hd with
      | tup hs0 ha =>
      cases ha with
      | cons h0 hr0 =>
      cases h0
      cases hr0 with
      | cons h1 hr1 =>
      cases hr1 with
      | cons h2 hr2 =>
      cases h2
      cases hr2 with
      | cons h3 hr3 =>
      cases hr3 with
      | cons h4 hr4 =>
      cases h4
      cases hr4
      have hsz : a.size + b.size + 1 ≤ n + 1 := hs
      walk_at "go"
      refine ⟨hok.2.2.1, kids_small hal a (by simp [Beat.kids]), by omega, fun f1 e1 t1 v1 H1 x1 hn1 => ?_, fun en H1 x1 => q2 (by simp [mk, en]) _ x1⟩
      walk_at "go"
      refine ⟨_, b, rfl, x1.dp h3, hok.2.2.2, kids_small hal b (by simp [Beat.kids]), by omega, fun f2 e2 t2 v2 H2 x2 hn2 => ?_, fun en H2 x2 => q2 (by simp [mk, e1, en]) _ (x1.trans x2)⟩
      walk_at "go"
      exact ⟨v1, v2, f1, f2, many, first, rfl, hal.resolve_right (fun z => z), hok.1, hok.2.1, hn1.at.ext x2, hn2.at, t1, t2, fun v' H' e' hn' => q1 _ (by simp [mk, e1, e2]) v' H' (x1.trans (x2.trans e')) (hn'.from (x1.trans x2))⟩

/-- the two, by turns -/
theorem ok_forms {allow : Prop} (T : ToldOf allow) {f1 f2 C : Addr} {fd1 fd2 : FuncData} (F1 : Fun K "form_of" "form_of" s_form_of f1 fd1) (F2 : Fun K "made_of" "made_of" s_made_of f2 fd2) (B : Blt mg)
    (hm1 : mg "form_of" = some (.ref f1)) (hk1 : PySem.W.keepIn K (.ref f1) = true) (hb1 : Binds K fd1 ["beat"] []) (hm2 : mg "made_of" = some (.ref f2)) (hk2 : PySem.W.keepIn K (.ref f2) = true) (hb2 : Binds K fd2 ["beat"] [])
    (c_need_short : Dn P w K mg base 1 "need_short" (spShort C))
    (c_gated : Dn P w K mg base 3 "gated" (spGated C)) (c_later : Dn P w K mg base 1 "later" spLater) (c_of_two : Dn P w K mg base 9 "of_two" (spTwo allow C)) (c_led_form : Dn P w K mg base 9 "led_form" (spLed allow)) :
    ∀ n, Dn P w K mg base (2 * n + 9) "form_of" (spFm K allow C n)
  | 0 => .of (FnOk.imp never_ok fun _ _ _ _ h => by
      obtain ⟨v, b, _, _, _, _, hs, _⟩ := h
      have := kids_size b
      omega) hm1 hk1 hb1
  | n + 1 => by
    have ih := ok_forms T F1 F2 B hm1 hk1 hb1 hm2 hk2 hb2 c_need_short c_gated c_later c_of_two c_led_form n
    have c := Dn.of (step_made_of F2 B (n := n) (k := 2 * n + 9) (by omega) ih c_gated c_later c_of_two c_led_form) hm2 hk2 hb2
    exact Dn.of (step_form_of T F1 B (by omega) c c_need_short) hm1 hk1 hb1
theorem sc_form : FnScope ["beat"] ["beat"] (defScope s_form) := ⟨rfl, rfl, rfl, by decide +kernel, rfl, by decide +kernel, by decide +kernel⟩
def spForm (K : PySem.W.Frag) (allow : Prop) (C : Addr) : Sp := fun vs H Q E => ∃ (v : V) (b : Beat), vs = [v] ∧ Dp K H v b.data ∧ b.ok ∧ (allow ∨ b.simple) ∧ b.size ≤ 30 ∧
  (∀ f, fm b = some f → Told f → ∀ v' H', Ex H H' → FormNew H H' v' f → Q v' H') ∧ (fm b = none → ∀ H', Ex H H' → E (.ref C) none H')
theorem ok_form {allow : Prop} {f C C2 : Addr} {fd : FuncData} (F : Fun K "form" "form" s_form f fd) (c_need_beat : Dn P w K mg base 5 "need_beat" (spNeed K C2)) (c_form_of : Dn P w K mg base 69 "form_of" (spFm K allow C 30)) :
    FnOk P w K mg base (L2.CX P w) 70 f fd ["beat"] (spForm K allow C) := by
  have nd := sc_form.nd
  refine F.okX sc_form (fun vs H Q E h => ?_) (fun cdv A outer s H vs Q E hr h => ?_)
  · obtain ⟨v, b, rfl, _⟩ := h
    rfl
  · obtain ⟨v, b, rfl, hd, hok, hal, hs, q1, q2⟩ := h
    refine ⟨_, 
    (pss_cons (ps_expr (pe_d c_need_beat hr (by decide) (passes_call (takes_of rfl rfl rfl rfl) fun _ _ _ _ h => h) (by rfl) (pa_cons (pv 0) pa_nil)))
    (pss_one (ps_ret (pe_d c_form_of hr (by decide) (passes_call (takes_of rfl rfl rfl rfl) fun _ _ _ _ h => h) (by rfl) (pa_cons (pv 0) pa_nil))))), ?_⟩
    try dsimp only [cxOf, Cx.nox, Cx.wish]
    have hfi := data_fine b hok (by omega)
    have hbt := beat_is hok hs
    have q3 : ∀ {R : Prop}, isBeatD b.data = false → R := fun z => by rw [hbt] at z; cases z
    walk_at "go"
    refine ⟨fun _ H1 e1 => ?_, fun z => q3 z⟩
    walk_at "go"
    exact ⟨v, b, rfl, e1.dp hd, hok, hal, hs, fun f1 h t v' H' e' hn => q1 f1 h t v' H' (e1.trans e') (hn.from e1), fun h H' e' => q2 h H' (e1.trans e')⟩
theorem sc_rate_of : FnScope ["told"] ["told"] (defScope s_rate_of) := ⟨rfl, rfl, rfl, by decide +kernel, rfl, by decide +kernel, by decide +kernel⟩
def rateZ (f : Form) : Int × Int := if f.round ≠ [] then ((f.round.length : Int) / gcdZ f.round.length f.len, f.len / gcdZ f.round.length f.len) else (0, 1)
def spRateOf : Sp := fun vs H Q _ => ∃ (v : V) (f : Form), vs = [v] ∧ FormAt H v f ∧ Few f ∧ ∀ p H', Ex H H' → H p = none → H' p = some (.tup [.int (rateZ f).1, .int (rateZ f).2]) → Q (.ref p) H'
theorem ok_rate_of {f : Addr} {fd : FuncData} (F : Fun K "rate_of" "rate_of" s_rate_of f fd) (B : Blt mg) (c_reduced : Dn P w K mg base 2 "reduced" spReduced) : FnOk P w K mg base CX0 3 f fd ["told"] spRateOf := by
  have nd := sc_rate_of.nd
  refine F.ok sc_rate_of (fun vs H Q E h => ?_) (fun cdv A outer s H vs Q E hr h => ?_)
  · obtain ⟨v, f, rfl, _⟩ := h
    rfl
  · obtain ⟨v, f, rfl, ⟨p, a, b, rfl, ht, ha, hb⟩, fw, q⟩ := h
    refine ⟨_, 
    (pss_one (ps_ret (pe_ifExp (pt_cmp (neNil (K := K) rfl hr.units (pe_ix (ixt (K := K) rfl) (pv 0) pe_int (fun _ _ => rfl)))) (pe_d c_reduced hr (by decide) passL (by rfl) (pa_cons (pe_callB (lenK (K := K) rfl) (by rfl) B.len PySem.boot_len (pa_cons (pe_ix (ixt (K := K) rfl) (pv 0) pe_int (fun _ _ => rfl)) pa_nil)) (pa_cons (pe_ix (ixt (K := K) rfl) (pv 0) pe_int (fun _ _ => rfl)) pa_nil))) (pe_tupN (pa_cons pe_int (pa_cons pe_int pa_nil)))))), ?_⟩
    try dsimp only [cxOf, Cx.nox, Cx.wish]
    unfold rateZ at q
    walk_at "go"
    refine ite2 (fun c => ?_) (fun c => ?_)
    · have c := of_bnot c
      rw [if_pos c] at q
      have hn : 0 < f.round.length := List.length_pos_iff.mpr c
      walk_at "go"
      rw [List.length_map]
      have hlo := fw.lo
      have g0 := gcdZ_pos (x := (f.round.length : Int)) (y := f.len) (by omega)
      have g1 : gcdZ (f.round.length : Int) f.len ≤ f.round.length := by
        unfold gcdZ
        exact Int.le_of_dvd (by omega) (Int.gcd_dvd_left ..)
      have h1 := fw.round
      refine ⟨fw.lo, g0, by omega, ?_⟩
      refine nT_intro fun p2 H2 np e2 hp => ?_
      exact q _ _ (by walk_at "ex") (by walk_at "fresh") hp
    · have c := not_bnot c
      rw [if_neg (fun z => z c)] at q
      walk_at "go"
      refine nT_intro fun p2 H2 np e2 hp => ?_
      exact q _ _ (by walk_at "ex") (by walk_at "fresh") hp
/-- the rate of a beat -/
def spRate (K : PySem.W.Frag) (allow : Prop) (C : Addr) : Sp := fun vs H Q E => ∃ (v : V) (b : Beat), vs = [v] ∧ Dp K H v b.data ∧ b.ok ∧ (allow ∨ b.simple) ∧ b.size ≤ 30 ∧
  (∀ f, fm b = some f → Told f → ∀ p H', Ex H H' → H p = none → H' p = some (.tup [.int (rateZ f).1, .int (rateZ f).2]) → Q (.ref p) H') ∧ (fm b = none → ∀ H', Ex H H' → E (.ref C) none H')

/-! ### how far from even -/
/-- the greatest less the least -/
def IsSpread (l : List Int) (d : Int) : Prop := ∃ hi ∈ l, ∃ lo ∈ l, (∀ x ∈ l, lo ≤ x ∧ x ≤ hi) ∧ d = hi - lo
theorem sc_need_endless : FnScope ["told"] ["told"] (defScope s_need_endless) := ⟨rfl, rfl, rfl, by decide +kernel, rfl, by decide +kernel, by decide +kernel⟩
def spNeedEndless (C : Addr) : Sp := fun vs H Q E => ∃ (v : V) (f : Form), vs = [v] ∧ FormAt H v f ∧ (f.round ≠ [] → ∀ H', Ex H H' → Q .non H') ∧ (f.round = [] → ∀ H', Ex H H' → E (.ref C) none H')
theorem ok_need_endless {f C : Addr} {fd : FuncData} (F : Fun K "need_endless" "need_endless" s_need_endless f fd) (T_Ends : ExC K mg "Ends" C) : FnOk P w K mg base (L2.CX P w) 1 f fd ["told"] (spNeedEndless C) := by
  have nd := sc_need_endless.nd
  refine F.okX sc_need_endless (fun vs H Q E h => ?_) (fun cdv A outer s H vs Q E hr h => ?_)
  · obtain ⟨v, b, rfl, _⟩ := h
    rfl
  · obtain ⟨v, f, rfl, ⟨p, a, b, rfl, ht, ha, hb⟩, q1, q2⟩ := h
    refine ⟨_, 
    (pss_one (ps_if (pt_cmp (eqNil (K := K) rfl hr.units (pe_ix (ixt (K := K) rfl) (pv 0) pe_int (fun _ _ => rfl)))) (pss_one (ps_raise rfl (takes_of rfl rfl rfl rfl) (pmk_own PySem.F.excBase_ValueError T_Ends.q T_Ends.gC T_Ends.kC (raises_own T_Ends.sB T_Ends.tC) rfl))) pss_nil)), ?_⟩
    try dsimp only [cxOf, Cx.nox, Cx.wish]
    walk_at "go"
    refine ite2 (fun c => ?_) (fun c => ?_)
    · exact q2 (of_decide_eq_true c) _ (by walk_at "ex")
    · exact q1 (not_dec c) _ (by walk_at "ex")
theorem sc_endless : FnScope ["beat", "told"] ["beat"] (defScope s_endless) := ⟨rfl, rfl, rfl, by decide +kernel, rfl, by decide +kernel, by decide +kernel⟩
def spEndless (K : PySem.W.Frag) (allow : Prop) (C C2 : Addr) : Sp := fun vs H Q E => ∃ (v : V) (b : Beat), vs = [v] ∧ Dp K H v b.data ∧ b.ok ∧ (allow ∨ b.simple) ∧ b.size ≤ 30 ∧
  (∀ f, fm b = some f → Told f → f.round ≠ [] → ∀ v' H', Ex H H' → FormNew H H' v' f → Q v' H') ∧ (∀ f, fm b = some f → f.round = [] → ∀ H', Ex H H' → E (.ref C2) none H') ∧ (fm b = none → ∀ H', Ex H H' → E (.ref C) none H')
theorem ok_endless {allow : Prop} {f C C2 : Addr} {fd : FuncData} (F : Fun K "endless" "endless" s_endless f fd) (c_form : Dn P w K mg base 70 "form" (spForm K allow C)) (c_need_endless : Dn P w K mg base 1 "need_endless" (spNeedEndless C2)) :
    FnOk P w K mg base (L2.CX P w) 71 f fd ["beat"] (spEndless K allow C C2) := by
  have nd := sc_endless.nd
  refine F.okX sc_endless (fun vs H Q E h => ?_) (fun cdv A outer s H vs Q E hr h => ?_)
  · obtain ⟨v, b, rfl, _⟩ := h
    rfl
  · obtain ⟨v, b, rfl, hd, hok, hal, hs, q1, q2, q3⟩ := h
    refine ⟨_, 
    (pss_cons (ps_set (i := 1) nd rfl (Or.inl rfl) (pe_d c_form hr (by decide) (passes_call (takes_of rfl rfl rfl rfl) fun _ _ _ _ h => h) (by rfl) (pa_cons (pv 0) pa_nil)))
    (pss_cons (ps_expr (pe_d c_need_endless hr (by decide) (passes_call (takes_of rfl rfl rfl rfl) fun _ _ _ _ h => h) (by rfl) (pa_cons (pv 1) pa_nil)))
    (pss_one (ps_ret (pv 1))))), ?_⟩
    try dsimp only [cxOf, Cx.nox, Cx.wish]
    walk_at "go"
    refine ⟨fun f h t v' H1 e1 hn => ?_, q3⟩
    walk_at "go"
    refine ⟨fun hne H2 e2 => ?_, fun he H2 e2 => q2 f h he _ (e1.trans e2)⟩
    walk_at "go"
    obtain ⟨p, a, c, ⟨rfl, ht, ha, hb⟩, np, na, nb, hab⟩ := hn
    exact q1 f h t hne _ _ (e1.trans e2) ⟨p, a, c, ⟨rfl, e2 _ _ ht, e2 _ _ ha, e2 _ _ hb⟩, np, na, nb, hab⟩
theorem sc_far_of : FnScope ["told", "many", "leads", "k"] ["told"] (defScope s_far_of) := ⟨rfl, rfl, rfl, by decide +kernel, rfl, by decide +kernel, by decide +kernel⟩
def spFarOf : Sp := fun vs H Q _ => ∃ (v : V) (f : Form), vs = [v] ∧ FormAt H v f ∧ Few f ∧ f.round ≠ [] ∧ ∀ d, IsSpread (leads f.round f.len) d → ∀ p H', Ex H H' → H p = none → H' p = some (.tup [.int (d / gcdZ d f.round.length), .int (f.round.length / gcdZ d f.round.length)]) → Q (.ref p) H'
theorem ok_far_of {f : Addr} {fd : FuncData} (F : Fun K "far_of" "far_of" s_far_of f fd) (B : Blt mg) (c_reduced : Dn P w K mg base 2 "reduced" spReduced) : FnOk P w K mg base CX0 3 f fd ["told"] spFarOf := by
  have nd := sc_far_of.nd
  refine F.ok sc_far_of (fun vs H Q E h => ?_) (fun cdv A outer s H vs Q E hr h => ?_)
  · obtain ⟨v, f, rfl, _⟩ := h
    rfl
  · obtain ⟨v, f, rfl, ⟨p, a, b, rfl, ht, ha, hb⟩, fw, hne, q⟩ := h
    refine ⟨_, 
    (pss_cons (ps_set (i := 1) nd rfl (Or.inr rfl) (pe_callB (lenK (K := K) rfl) (by rfl) B.len PySem.boot_len (pa_cons (pe_ix (ixt (K := K) rfl) (pv 0) pe_int (fun _ _ => rfl)) pa_nil)))
    (pss_cons (ps_setLc (i := 2) (own := [("k", 3)]) (g := gName 3) rfl nd rfl rfl (sw_true rfl rfl rfl (by decide +kernel)) (pi_range1 (by rfl) B.range (pa_cons (pv 1) pa_nil)) (blkOk_by (N := ["told", "many", "leads", "k"]) (sc := defScope s_far_of) (by decide +kernel)) (fun _ _ _ _ _ => pg_name (i := 3) nd rfl (Or.inl rfl)) (fun _ _ _ _ _ => pts_nil) (fun _ _ _ _ _ => (pe_op op_sub (pe_op op_mul (pv 3) (pe_ix (ixt (K := K) rfl) (pv 0) pe_int (fun _ _ => rfl))) (pe_op op_mul (pv 1) (pe_op op_sub (pe_ix (ixl (K := K) rfl) (pe_ix (ixt (K := K) rfl) (pv 0) pe_int (fun _ _ => rfl)) (pv 3) (fun _ _ => rfl)) (pe_ix (ixl (K := K) rfl) (pe_ix (ixt (K := K) rfl) (pv 0) pe_int (fun _ _ => rfl)) pe_int (fun _ _ => rfl)))))))
    (pss_one (ps_ret (pe_d c_reduced hr (by decide) passL (by rfl) (pa_cons (pe_op op_sub (pe_callB (maxK (K := K) rfl rfl) (by rfl) B.max bt_max (pa_cons (pv 2) pa_nil)) (pe_callB (minK (K := K) rfl rfl) (by rfl) B.min bt_min (pa_cons (pv 2) pa_nil))) (pa_cons (pv 1) pa_nil))))))), ?_⟩
    try dsimp only [cxOf, Cx.nox, Cx.wish]
    have h1 := fw.round
    have h2 := fw.lo
    have h3 := fw.hi
    have hn : 0 < f.round.length := List.length_pos_iff.mpr hne
    walk_at "go"
    rw [List.length_map, Int.toNat_natCast]
    refine lc_all ((leads f.round f.len).map V.int) (by simp [leads]) Goes.range (by omega) ?_ ?_
    · rintro i x H' hi e rfl R hR
      refine ⟨rfl, ?_⟩
      have ht' := e _ _ ht
      have hb' : SqL K H' b (f.round.map V.int) := .of (e _ _ hb)
      walk_at "go"
      have e0 : f.round.headD 0 = f.round.getD 0 0 := headD_eq
      refine ⟨b, _, _, _, rfl, rfl, hb', atI_getI (by omega) (by omega), ?_⟩
      walk_at "go"
      refine ⟨b, _, 0, _, rfl, rfl, hb', atI_headI hne, ?_⟩
      walk_at "go"
      rw [e0, show (0 + (i : Int)).toNat = i by omega]
      refine hR _ _ ?_ (Ex.refl _)
      unfold leads leadAt
      rw [List.getElem?_map, List.getElem?_map, List.getElem?_range hi, Int.zero_add]
      rfl
    intro L H1 nL e1 hL
    walk_at "go"
    have hll : (leads f.round f.len).length = f.round.length := by simp [leads]
    refine ⟨by omega, fun hi hi1 hi2 => ?_⟩
    walk_at "go"
    refine fun lo lo1 lo2 => ?_
    walk_at "go"
    have hle := hi2 lo lo1
    have g0 : 0 < gcdZ (hi - lo) (f.round.length : Int) := by
      unfold gcdZ
      have := Int.gcd_pos_of_ne_zero_right (hi - lo) (show (f.round.length : Int) ≠ 0 by omega)
      omega
    have g1 := gcdZ_le (x := hi - lo) (y := (f.round.length : Int)) (by omega)
    have sp : IsSpread (leads f.round f.len) (hi - lo) := ⟨hi, hi1, lo, lo1, fun x hx => ⟨lo2 x hx, hi2 x hx⟩, rfl⟩
    refine ⟨by omega, by omega, g0, by omega, ?_⟩
    refine nT_intro fun p2 H2 np e2 hp => ?_
    exact q _ sp _ _ (by walk_at "ex") (by walk_at "fresh") hp
theorem sc_far : FnScope ["beat"] ["beat"] (defScope s_far) := ⟨rfl, rfl, rfl, by decide +kernel, rfl, by decide +kernel, by decide +kernel⟩
/-- how far a beat is from even -/
def spFar (K : PySem.W.Frag) (allow : Prop) (C C2 : Addr) : Sp := fun vs H Q E => ∃ (v : V) (b : Beat), vs = [v] ∧ Dp K H v b.data ∧ b.ok ∧ (allow ∨ b.simple) ∧ b.size ≤ 30 ∧
  (∀ f, fm b = some f → Told f → f.round ≠ [] → ∀ d, IsSpread (leads f.round f.len) d → ∀ p H', Ex H H' → H p = none → H' p = some (.tup [.int (d / gcdZ d f.round.length), .int (f.round.length / gcdZ d f.round.length)]) → Q (.ref p) H') ∧
  (∀ f, fm b = some f → f.round = [] → ∀ H', Ex H H' → E (.ref C2) none H') ∧ (fm b = none → ∀ H', Ex H H' → E (.ref C) none H')
theorem ok_far {allow : Prop} {f C C2 : Addr} {fd : FuncData} (F : Fun K "far" "far" s_far f fd) (c_endless : Dn P w K mg base 71 "endless" (spEndless K allow C C2)) (c_far_of : Dn P w K mg base 3 "far_of" spFarOf) :
    FnOk P w K mg base (L2.CX P w) 72 f fd ["beat"] (spFar K allow C C2) := by
  have nd := sc_far.nd
  refine F.okX sc_far (fun vs H Q E h => ?_) (fun cdv A outer s H vs Q E hr h => ?_)
  · obtain ⟨v, b, rfl, _⟩ := h
    rfl
  · obtain ⟨v, b, rfl, hd, hok, hal, hs, q1, q2, q3⟩ := h
    refine ⟨_, 
    (pss_one (ps_ret (pe_d c_far_of hr (by decide) (passes_call (takes_of rfl rfl rfl rfl) fun _ _ _ _ h => h) (by rfl) (pa_cons (pe_d c_endless hr (by decide) (passes_call (takes_of rfl rfl rfl rfl) fun _ _ _ _ h => h) (by rfl) (pa_cons (pv 0) pa_nil)) pa_nil)))), ?_⟩
    try dsimp only [cxOf, Cx.nox, Cx.wish]
    walk_at "go"
    refine ⟨fun f h t hne v' H1 e1 hn => ?_, q2, q3⟩
    walk_at "go"
    exact ⟨t.few, hne, fun d sp p H2 e2 np hp => q1 f h t hne d sp p H2 (e1.trans e2) (e1.back np) hp⟩
theorem two_shaped (x y : Int) : SeqAt.shaped (.tuple [.int x, .int y]) = true := by
  rw [shaped_iff]
  simp [PyData.canLay0, PyData.canLayAll0, PyData.depth, PyData.depthAll]
theorem sc_is_even : FnScope ["beat", "told", "most"] ["beat"] (defScope s_is_even) := ⟨rfl, rfl, rfl, by decide +kernel, rfl, by decide +kernel, by decide +kernel⟩
def evenB (f : Form) (d : Int) : Bool := decide (d / gcdZ d f.round.length = (rateZ f).1 - 1) && decide ((f.round.length : Int) / gcdZ d f.round.length = (rateZ f).1)
def spIsEven (K : PySem.W.Frag) (allow : Prop) (C C2 : Addr) : Sp := fun vs H Q E => ∃ (v : V) (b : Beat), vs = [v] ∧ Dp K H v b.data ∧ b.ok ∧ (allow ∨ b.simple) ∧ b.size ≤ 30 ∧
  (∀ f, fm b = some f → Told f → f.round ≠ [] → ∀ d, IsSpread (leads f.round f.len) d → ∀ H', Ex H H' → Q (.bl (evenB f d)) H') ∧
  (∀ f, fm b = some f → f.round = [] → ∀ H', Ex H H' → E (.ref C2) none H') ∧ (fm b = none → ∀ H', Ex H H' → E (.ref C) none H')
theorem ok_is_even {allow : Prop} {f C C2 : Addr} {fd : FuncData} (F : Fun K "is_even" "is_even" s_is_even f fd) (c_endless : Dn P w K mg base 71 "endless" (spEndless K allow C C2)) (c_far_of : Dn P w K mg base 3 "far_of" spFarOf) (c_rate_of : Dn P w K mg base 3 "rate_of" spRateOf) :
    FnOk P w K mg base (L2.CX P w) 72 f fd ["beat"] (spIsEven K allow C C2) := by
  have nd := sc_is_even.nd
  refine F.okX sc_is_even (fun vs H Q E h => ?_) (fun cdv A outer s H vs Q E hr h => ?_)
  · obtain ⟨v, b, rfl, _⟩ := h
    rfl
  · obtain ⟨v, b, rfl, hd, hok, hal, hs, q1, q2, q3⟩ := h
    refine ⟨_, 
    (pss_cons (ps_set (i := 1) nd rfl (Or.inl rfl) (pe_d c_endless hr (by decide) (passes_call (takes_of rfl rfl rfl rfl) fun _ _ _ _ h => h) (by rfl) (pa_cons (pv 0) pa_nil)))
    (pss_cons (ps_set (i := 2) nd rfl (Or.inl rfl) (pe_ix (ixt (K := K) rfl) (pe_d c_rate_of hr (by decide) (passes_call (takes_of rfl rfl rfl rfl) fun _ _ _ _ h => h) (by rfl) (pa_cons (pv 1) pa_nil)) pe_int (fun _ _ => rfl)))
    (pss_one (ps_ret (pe_cmpR (eqD (K := K) rfl hr.units) (pe_d c_far_of hr (by decide) (passes_call (takes_of rfl rfl rfl rfl) fun _ _ _ _ h => h) (by rfl) (pa_cons (pv 1) pa_nil)) (pe_tupN (pa_cons (pe_op op_sub (pv 2) pe_int) (pa_cons (pv 2) pa_nil))) (nomark _)))))), ?_⟩
    try dsimp only [cxOf, Cx.nox, Cx.wish]
    walk_at "go"
    refine ⟨fun f h t hne v' H1 e1 hn => ?_, q2, q3⟩
    walk_at "go"
    refine ⟨t.few, fun p H2 e2 np hp => ?_⟩
    walk_at "go"
    refine ⟨t.few, hne, fun d sp p2 H3 e3 np2 hp2 => ?_⟩
    walk_at "go"
    refine nT_intro fun p3 H4 np3 e4 hp3 => ?_
    walk_at "go"
    refine ⟨.tuple [.int _, .int _], .tuple [.int _, .int _], .tup (.of (e4 _ _ hp2)) (.cons (.int _) (.cons (.int _) .nil)), .tup (.of hp3) (.cons (.int _) (.cons (.int _) .nil)), two_shaped _ _, two_shaped _ _, ?_⟩
    have ee : PyData.eqv (.tuple [.int (d / gcdZ d f.round.length), .int ((f.round.length : Int) / gcdZ d f.round.length)]) (.tuple [.int ((rateZ f).1 - 1), .int (rateZ f).1]) = evenB f d := by
      simp only [PyData.eqv, PyData.eqvAll, Bool.and_true, evenB]
      rfl
    rw [ee]
    exact q1 f h t hne d sp _ (e1.trans (e2.trans (e3.trans e4)))


/-! ### all texts of so many signs with so many ones -/
def stepAll (count ones k : Nat) (l : List (List Bool × Nat)) : List (List Bool × Nat) := l.flatMap fun r => (if r.2 < ones then [(r.1 ++ [true], r.2 + 1)] else []) ++ (if (ones : Int) - (r.2 : Int) < (count : Int) - (k : Int) then [(r.1 ++ [false], r.2)] else [])
def allAt (count ones : Nat) : Nat → List (List Bool × Nat)
  | 0 => [([], 0)]
  | k + 1 => stepAll count ones k (allAt count ones k)
theorem step_len (count ones k : Nat) : ∀ l : List (List Bool × Nat), (stepAll count ones k l).length ≤ 2 * l.length
  | [] => by simp [stepAll]
  | r :: l => by
    have ih := step_len count ones k l
    unfold stepAll at ih ⊢
    rw [List.flatMap_cons, List.length_append, List.length_append, List.length_cons]
    have h1 : (if r.2 < ones then [(r.1 ++ [true], r.2 + 1)] else []).length ≤ 1 := by split <;> simp
    have h2 : (if (ones : Int) - (r.2 : Int) < (count : Int) - (k : Int) then [(r.1 ++ [false], r.2)] else []).length ≤ 1 := by split <;> simp
    omega
theorem all_len (count ones : Nat) : ∀ k, (allAt count ones k).length ≤ 2 ^ k
  | 0 => by simp [allAt]
  | k + 1 => by
    have ih := all_len count ones k
    have := step_len count ones k (allAt count ones k)
    rw [allAt, Nat.pow_succ]
    omega
theorem all_ok (count ones : Nat) (h : ones ≤ count) : ∀ k, k ≤ count → ∀ r ∈ allAt count ones k, r.1.length = k ∧ r.2 = r.1.count true ∧ r.2 ≤ ones ∧ ones + k ≤ count + r.2
  | 0, _, r, hr => by
    rw [allAt, List.mem_singleton] at hr
    subst hr
    exact ⟨rfl, rfl, Nat.zero_le _, by show ones + 0 ≤ count + 0; omega⟩
  | k + 1, hk, r, hr => by
    rw [allAt] at hr
    obtain ⟨s, hs, hr⟩ := List.mem_flatMap.mp hr
    obtain ⟨a, b, c, d⟩ := all_ok count ones h k (by omega) s hs
    rcases List.mem_append.mp hr with hr | hr
    · split at hr
      · rw [List.mem_singleton] at hr
        subst hr
        refine ⟨by simp [a], by simp [b], by show s.2 + 1 ≤ ones; omega, by show ones + (k + 1) ≤ count + (s.2 + 1); omega⟩
      · cases hr
    · split at hr
      · rw [List.mem_singleton] at hr
        subst hr
        refine ⟨by simp [a], by simp [b], c, by show ones + (k + 1) ≤ count + s.2; omega⟩
      · cases hr
theorem all_has {count ones : Nat} {bits : List Bool} (h1 : bits.length = count) (h2 : bits.count true = ones) : ∀ k, k ≤ count → (bits.take k, (bits.take k).count true) ∈ allAt count ones k
  | 0, _ => by simp [allAt]
  | k + 1, hk => by
    have ih := all_has h1 h2 k (by omega)
    rw [allAt]
    refine List.mem_flatMap.mpr ⟨_, ih, ?_⟩
    have hb : bits[k]? = some (bits[k]'(by omega)) := List.getElem?_eq_getElem (by omega)
    have ht : bits.take (k + 1) = bits.take k ++ [bits[k]'(by omega)] := by rw [List.take_add_one, hb]; rfl
    have hsum : (bits.take (k + 1)).count true + (bits.drop (k + 1)).count true = ones := by
      rw [← List.count_append, List.take_append_drop, h2]
    have hdr : (bits.drop (k + 1)).count true ≤ count - (k + 1) := by
      refine Nat.le_trans List.count_le_length ?_
      rw [List.length_drop, h1]
      omega
    rw [ht] at hsum ⊢
    rw [List.count_append] at hsum ⊢
    cases hbk : (bits[k]'(by omega)) with
    | true =>
      rw [hbk] at hsum
      rw [List.count_singleton_self] at hsum ⊢
      refine List.mem_append_left _ ?_
      rw [if_pos (by show (bits.take k).count true < ones; omega)]
      exact List.mem_singleton.mpr rfl
    | false =>
      rw [hbk] at hsum
      have hz : [false].count true = 0 := by decide
      rw [hz] at hsum ⊢
      refine List.mem_append_right _ ?_
      rw [if_pos (by show (ones : Int) - (((bits.take k).count true : Nat) : Int) < (count : Int) - (k : Int); omega)]
      exact List.mem_singleton.mpr rfl
/-- such a list stands there -/
def PairsAt (H : Hp) (a : Addr) (l : List (List Bool × Nat)) : Prop := ∃ ps : List Addr, H a = some (.lst (ps.map V.ref)) ∧ ps.length = l.length ∧ ∀ (i : Nat) (p : Addr) (r : List Bool × Nat), ps[i]? = some p → l[i]? = some r → H p = some (.tup [.str (bitsStr r.1), .int (r.2 : Int)])
theorem PairsAt.snoc {H : Hp} {a t : Addr} {l : List (List Bool × Nat)} {r : List Bool × Nat} (h : ∃ ps : List Addr, H a = some (.lst (ps.map V.ref)) ∧ ps.length = l.length ∧ ∀ (i : Nat) (p : Addr) (r : List Bool × Nat), ps[i]? = some p → l[i]? = some r → H p = some (.tup [.str (bitsStr r.1), .int (r.2 : Int)])) (ht : H t = some (.tup [.str (bitsStr r.1), .int (r.2 : Int)])) :
    ∀ ps : List Addr, H a = some (.lst (ps.map V.ref)) → PairsAt (upd H a (.lst (ps.map V.ref ++ [.ref t]))) a (l ++ [r]) := by
  obtain ⟨ps, h1, h2, h3⟩ := h
  intro ps' h'
  rw [h1] at h'
  have e : ps.map V.ref = ps'.map V.ref := by injection h' with h'; injection h'
  rw [← e]
  refine ⟨ps ++ [t], by rw [List.map_append]; exact upd_same, by rw [List.length_append, List.length_append, h2]; rfl, fun i p s hp hs => ?_⟩
  have key : H p = some (.tup [.str (bitsStr s.1), .int (s.2 : Int)]) := by
    rw [List.getElem?_append] at hp hs
    rw [h2] at hp
    by_cases hj : i < l.length
    · rw [if_pos hj] at hp hs
      exact h3 i p s hp hs
    · rw [if_neg hj] at hp hs
      have hj2 : i - l.length = 0 := by
        have := (List.getElem?_eq_some_iff.mp hp).1
        rw [List.length_singleton] at this
        omega
      rw [hj2] at hp hs
      cases hp
      cases hs
      exact ht
  rw [upd_ne ?_]
  · exact key
  · intro z
    rw [z, h1] at key
    cases key
theorem PairsAt.ext {H H' : Hp} {a : Addr} {l : List (List Bool × Nat)} (h : PairsAt H a l) (e : Ex H H') : PairsAt H' a l := by
  obtain ⟨ps, h1, h2, h3⟩ := h
  exact ⟨ps, e _ _ h1, h2, fun i p r a b => e _ _ (h3 i p r a b)⟩
theorem seq_cut {s1 s2 : TS} {D : Ends} {σ : L2.St} {H : Hp} (mid : L2.St → Hp → Prop) (h1 : ∀ N : L2.St → Hp → Prop, (∀ σ' H', mid σ' H' → N σ' H') → s1 { D with nx := N } σ H) (h2 : ∀ σ' H', mid σ' H' → s2 D σ' H') : tSeq s1 s2 D σ H := h1 _ h2
theorem step_snoc (count ones k : Nat) (l : List (List Bool × Nat)) (r : List Bool × Nat) : stepAll count ones k (l ++ [r]) = stepAll count ones k l ++ ((if r.2 < ones then [(r.1 ++ [true], r.2 + 1)] else []) ++ (if (ones : Int) - (r.2 : Int) < (count : Int) - (k : Int) then [(r.1 ++ [false], r.2)] else [])) := by
  unfold stepAll
  rw [List.flatMap_append]
  simp
theorem sc__law_all : FnScope ["_law_count", "_law_ones", "_law_found", "_law_k", "_law_longer", "_law_text", "_law_many"] ["_law_count", "_law_ones"] (defScope s__law_all) := ⟨rfl, rfl, rfl, by decide +kernel, rfl, by decide +kernel, by decide +kernel⟩
def spAll11 : Sp := fun vs H Q _ => ∃ (count ones : Nat), vs = [.int (count : Int), .int (ones : Int)] ∧ ones ≤ count ∧ count ≤ 10 ∧ ∀ L H', Ex H H' → H L = none → H' L = some (.lst ((allAt count ones count).map fun r => V.str (bitsStr r.1))) → Q (.ref L) H'
theorem ok__law_all {f : Addr} {fd : FuncData} (F : Fun K "_law_all" "_law_all" s__law_all f fd) (B : Blt mg) : FnOk P w K mg base CX0 1 f fd ["_law_count", "_law_ones"] spAll11 := by
  have nd := sc__law_all.nd
  refine F.ok sc__law_all (fun vs H Q E h => ?_) (fun cdv A outer s H vs Q E hr h => ?_)
  · obtain ⟨p, q, rfl, _⟩ := h
    rfl
  · obtain ⟨count, ones, rfl, h1, h2, q⟩ := h
    refine ⟨_, 
    (pss_cons (ps_set (i := 2) nd rfl (Or.inl rfl) (pe_lstN (pa_cons (pe_tupN (pa_cons pe_str (pa_cons pe_int pa_nil))) pa_nil)))
    (pss_cons (ps_for PassesOwn.never rfl (pi_range1 (by rfl) B.range (pa_cons (pv 0) pa_nil)) (pg_name (i := 3) nd rfl (Or.inl rfl)) (pss_cons (ps_set (i := 4) nd rfl (Or.inl rfl) (pe_lstN pa_nil))
    (pss_cons (ps_for PassesOwn.never rfl (pi_list (pv 2)) (pg_tup rfl (pgs_cons (pg_name (i := 5) nd rfl (Or.inl rfl)) (pgs_cons (pg_name (i := 6) nd rfl (Or.inl rfl)) pgs_nil))) (pss_cons (ps_if (pt_cmpR op_lt (pv 6) (pv 1) (nomark _)) (pss_one (ps_expr (pe_bm PySem.F.plainAttrs_list PySem.F.slot_list_append PySem.F.type_list_append mt_append (pv 4) (pa_cons (pe_tupN (pa_cons (pe_op op_add_str (pv 5) pe_str) (pa_cons (pe_op op_add (pv 6) pe_int) pa_nil))) pa_nil)))) pss_nil)
    (pss_one (ps_if (pt_cmpR op_gt (pe_op op_sub (pv 0) (pv 3)) (pe_op op_sub (pv 1) (pv 6)) (nomark _)) (pss_one (ps_expr (pe_bm PySem.F.plainAttrs_list PySem.F.slot_list_append PySem.F.type_list_append mt_append (pv 4) (pa_cons (pe_tupN (pa_cons (pe_op op_add_str (pv 5) pe_str) (pa_cons (pv 6) pa_nil))) pa_nil)))) pss_nil))))
    (pss_one (ps_set (i := 2) nd rfl (Or.inl rfl) (pv 4))))))
    (pss_one (ps_ret (pe_lc (own := [("_law_text", 5), ("_law_many", 6)]) (g := gTup K 2 (gCons (gName 5) (gCons (gName 6) gNil))) rfl nd (pi_list (pv 2)) (blkOk_by (N := ["_law_count", "_law_ones", "_law_found", "_law_k", "_law_longer", "_law_text", "_law_many"]) (sc := defScope s__law_all) (by decide +kernel)) (fun _ _ _ _ _ => (pg_tup rfl (pgs_cons (pg_name (i := 5) nd rfl (Or.inl rfl)) (pgs_cons (pg_name (i := 6) nd rfl (Or.inl rfl)) pgs_nil)))) (fun _ _ _ _ _ => pts_nil) (fun _ _ _ _ _ => (pv 5))))))), ?_⟩
    try dsimp only [cxOf, Cx.nox, Cx.wish]
    walk_at "go"
    refine nT_intro fun t0 H1 n0 e0 ht0 => ?_
    walk_at "go"
    refine nL_intro fun L0 H2 nL0 e1 hL0 => ?_
    walk_at "go"
    rw [Int.toNat_natCast]
    have w0 : V.str (Str.ofString "") = .str (bitsStr []) := by decide +kernel
    have w1 : Str.ofString "1" = bitsStr [true] := by decide +kernel
    have w2 : Str.ofString "0" = bitsStr [false] := by decide +kernel
    refine for_range (fun k σ H' => ∃ (L : Addr) (y3 y4 y5 y6 : Option V), σ = [some (.int (count : Int)), some (.int (ones : Int)), some (.ref L), y3, y4, y5, y6] ∧ Ex H H' ∧ PairsAt H' L (allAt count ones k))
      ⟨L0, _, _, _, _, rfl, e0.trans e1, [t0], hL0, rfl, fun i p r hp hs => ?_⟩ ?_ ?_
    · cases i with
      | zero =>
        cases hp
        cases hs
        rw [← w0]
        exact e1 _ _ ht0
      | succ i => cases hp
    · rintro k σ H3 hk ⟨L, y3, y4, y5, y6, rfl, e3, hL⟩
      walk_at "go"
      refine nL_intro fun M H4 nM e4 hM => ?_
      obtain ⟨ps, g1, g2, g3⟩ := hL.ext e4
      have hlen := all_len count ones k
      have hpow : 2 ^ k ≤ 2 ^ 10 := Nat.pow_le_pow_right (by decide) (by omega)
      walk_at "go"
      refine for_list (K := K) (a := L) (xs := ps.map V.ref) (fun j σ H' => ∃ y5 y6 : Option V, σ = [some (.int (count : Int)), some (.int (ones : Int)), some (.ref L), some (.int (0 + (k : Int))), some (.ref M), y5, y6] ∧ Ex H3 H' ∧ H' L = some (.lst (ps.map V.ref)) ∧ (∀ (i : Nat) (p : Addr) (r : List Bool × Nat), ps[i]? = some p → (allAt count ones k)[i]? = some r → H' p = some (.tup [.str (bitsStr r.1), .int (r.2 : Int)])) ∧ PairsAt H' M (stepAll count ones k ((allAt count ones k).take j)))
        ⟨_, _, rfl, e4, g1, g3, [], hM, rfl, fun i p r hp => (nomatch hp)⟩ (fun j σ H' _ ⟨_, _, _, _, e, _⟩ => .of e) ?_ ?_
      · rintro j x σ H5 hj ⟨y5, y6, rfl, e5, hL5, hP5, hM5⟩
        obtain ⟨pp, hpp, rfl⟩ : ∃ pp, ps[j]? = some pp ∧ x = .ref pp := by
          rw [List.getElem?_map] at hj
          obtain ⟨pp, h, e⟩ := Option.map_eq_some_iff.mp hj
          exact ⟨pp, h, e.symm⟩
        have hjl : j < (allAt count ones k).length := by
          have := (List.getElem?_eq_some_iff.mp hpp).1
          omega
        have hr : (allAt count ones k)[j]? = some ((allAt count ones k)[j]) := List.getElem?_eq_getElem hjl
        have htake : (allAt count ones k).take (j + 1) = (allAt count ones k).take j ++ [(allAt count ones k)[j]] := by rw [List.take_add_one, hr]; rfl
        have hok := all_ok count ones h1 k (by omega) _ (List.getElem_mem hjl)
        have hstep := step_snoc count ones k ((allAt count ones k).take j) ((allAt count ones k)[j])
        have hlen5 : (stepAll count ones k ((allAt count ones k).take j)).length ≤ 2 * 2 ^ 10 := by
          refine Nat.le_trans (step_len _ _ _ _) ?_
          rw [List.length_take]
          omega
        rw [← htake] at hstep
        have htup := hP5 j pp _ hpp hr
        generalize (allAt count ones k)[j] = r at htup hok hstep
        obtain ⟨bits, m⟩ := r
        obtain ⟨k1, k2, k3, k4⟩ := hok
        dsimp only at htup hstep k1 k2 k3 k4
        have nM3 : H3 M = none := nM
        have hLM : L ≠ M := by
          obtain ⟨_, z, _⟩ := hL
          exact ne_of_none z nM3
        have hbl : (bitsStr bits).length ≤ 10 := by rw [bitsStr_len]; omega
        refine ⟨pp, _, rfl, .of htup, rfl, _, _, rfl, _, _, rfl, rfl, ?_⟩
        refine seq_cut (fun σ' H' => σ' = [some (.int (count : Int)), some (.int (ones : Int)), some (.ref L), some (.int (0 + (k : Int))), some (.ref M), some (.str (bitsStr bits)), some (.int (m : Int))] ∧ Ex H3 H' ∧ H' L = some (.lst (ps.map V.ref)) ∧ (∀ (i : Nat) (p : Addr) (r : List Bool × Nat), ps[i]? = some p → (allAt count ones k)[i]? = some r → H' p = some (.tup [.str (bitsStr r.1), .int (r.2 : Int)])) ∧
            PairsAt H' M (stepAll count ones k ((allAt count ones k).take j) ++ (if m < ones then [(bits ++ [true], m + 1)] else []))) ?_ ?_
        · intro N hN
          walk_at "go"
          refine ite2 (fun c => ?_) (fun c => ?_)
          · have c := of_decide_eq_true c
            obtain ⟨qs, m1, m2, m3⟩ := hM5
            walk_at "go"
            refine ⟨.inl ⟨rfl, _, .of m1⟩, ?_⟩
            walk_at "go"
            rw [w1]
            refine ⟨?_, ?_⟩
            · rw [bitsStr_len [true]]
              exact Nat.le_trans (Nat.add_le_add hbl (Nat.le_refl 1)) (by decide)
            rw [← bits_app]
            walk_at "go"
            refine nT_intro fun t H7 nt e7 ht => ?_
            have hMt : PairsAt H7 M _ := PairsAt.ext ⟨qs, m1, m2, m3⟩ e7
            have m1' := e7 _ _ m1
            have hsn := PairsAt.snoc (r := (bits ++ [true], m + 1)) hMt ht qs m1'
            have keepL : ∀ o, H5 L = some o → upd H7 M (.lst (qs.map V.ref ++ [.ref t])) L = some o := fun o ho => by
              rw [upd_ne hLM]
              exact e7 _ _ ho
            have keepP : ∀ (i : Nat) (p : Addr) (r : List Bool × Nat), ps[i]? = some p → (allAt count ones k)[i]? = some r → upd H7 M (.lst (qs.map V.ref ++ [.ref t])) p = some (.tup [.str (bitsStr r.1), .int (r.2 : Int)]) := fun i p r x1 x2 => by
              have z := hP5 i p r x1 x2
              rw [upd_ne ?_]
              · exact e7 _ _ z
              · intro w
                rw [w, m1] at z
                cases z
            refine ⟨M, _, _, rfl, rfl, m1', ?_, ?_⟩
            · rw [List.length_map, m2]
              exact Nat.lt_of_le_of_lt hlen5 (by decide)
            refine hN _ _ ⟨rfl, Ex.mut (e5.trans e7) nM3, keepL _ hL5, keepP, ?_⟩
            rw [if_pos (show m < ones by omega)]
            exact hsn
          · have c := not_dec c
            refine hN _ _ ⟨rfl, e5, hL5, hP5, ?_⟩
            rw [if_neg (by omega), List.append_nil]
            exact hM5
        · rintro σ' H6 ⟨rfl, e6, hL6, hP6, hM6⟩
          walk_at "go"
          refine ite2 (fun c => ?_) (fun c => ?_)
          · have c := of_decide_eq_true c
            obtain ⟨qs, m1, m2, m3⟩ := hM6
            walk_at "go"
            refine ⟨.inl ⟨rfl, _, .of m1⟩, ?_⟩
            walk_at "go"
            rw [w2]
            refine ⟨?_, ?_⟩
            · rw [bitsStr_len [false]]
              exact Nat.le_trans (Nat.add_le_add hbl (Nat.le_refl 1)) (by decide)
            rw [← bits_app]
            walk_at "go"
            refine nT_intro fun t H7 nt e7 ht => ?_
            have hMt : PairsAt H7 M _ := PairsAt.ext ⟨qs, m1, m2, m3⟩ e7
            have m1' := e7 _ _ m1
            have hsn := PairsAt.snoc (r := (bits ++ [false], m)) hMt ht qs m1'
            have keepL : ∀ o, H6 L = some o → upd H7 M (.lst (qs.map V.ref ++ [.ref t])) L = some o := fun o ho => by
              rw [upd_ne hLM]
              exact e7 _ _ ho
            have keepP : ∀ (i : Nat) (p : Addr) (r : List Bool × Nat), ps[i]? = some p → (allAt count ones k)[i]? = some r → upd H7 M (.lst (qs.map V.ref ++ [.ref t])) p = some (.tup [.str (bitsStr r.1), .int (r.2 : Int)]) := fun i p r x1 x2 => by
              have z := hP6 i p r x1 x2
              rw [upd_ne ?_]
              · exact e7 _ _ z
              · intro w
                rw [w, m1] at z
                cases z
            refine ⟨M, _, _, rfl, rfl, m1', ?_, ?_⟩
            · rw [List.length_map, m2]
              rw [List.length_append]
              have : (if m < ones then [(bits ++ [true], m + 1)] else []).length ≤ 1 := by split <;> simp
              exact Nat.lt_of_le_of_lt (Nat.add_le_add hlen5 this) (by decide)
            refine ⟨_, _, rfl, Ex.mut (e6.trans e7) nM3, keepL _ hL6, keepP, ?_⟩
            rw [hstep, if_pos (show (ones : Int) - (m : Int) < (count : Int) - (k : Int) by omega), ← List.append_assoc]
            exact hsn
          · have c := not_dec c
            refine ⟨_, _, rfl, e6, hL6, hP6, ?_⟩
            rw [hstep, if_neg (show ¬ (ones : Int) - (m : Int) < (count : Int) - (k : Int) by omega), List.append_nil]
            exact hM6
      · rintro σ H5 ⟨y5, y6, rfl, e5, hL5, hP5, hM5⟩
        walk_at "go"
        rw [List.length_map, g2, List.take_length] at hM5
        exact ⟨M, _, _, _, _, rfl, e3.trans e5, hM5⟩
    · rintro σ H3 ⟨L, y3, y4, y5, y6, rfl, e3, hL⟩
      obtain ⟨ps, g1, g2, g3⟩ := hL
      have hlen := all_len count ones count
      have hpow : 2 ^ count ≤ 2 ^ 10 := Nat.pow_le_pow_right (by decide) (by omega)
      walk_at "go"
      refine lc_all ((allAt count ones count).map fun r => V.str (bitsStr r.1)) (by rw [List.length_map, List.length_map]; omega) (Goes.list (.of g1)) (by rw [List.length_map]; omega) ?_ ?_
      · rintro i x H' hi e hx R hR
        rw [List.length_map] at hi
        have hp : ps[i]? = some (ps[i]'hi) := List.getElem?_eq_getElem hi
        have hr : (allAt count ones count)[i]? = some ((allAt count ones count)[i]'(by omega)) := List.getElem?_eq_getElem (by omega)
        rw [List.getElem?_map, hp] at hx
        cases hx
        have htup := e _ _ (g3 i _ _ hp hr)
        have hR2 : ∀ y H4, y = V.str (bitsStr ((allAt count ones count)[i]'(by omega)).1) → Ex H' H4 → R y H4 := fun y H4 h e4 => hR y H4 (by rw [List.getElem?_map, hr, h]; rfl) e4
        refine ⟨_, _, rfl, .of htup, rfl, _, _, rfl, _, _, rfl, rfl, rfl, ?_⟩
        walk_at "go"
        exact hR2 _ _ rfl (by walk_at "ex")
      intro L2 H4 nL2 e4 hL2
      exact q L2 H4 (e3.trans e4) (e3.back nL2) hL2


/-! ### the law -/
theorem spread_uniq {l : List Int} {d e : Int} (h : IsSpread l d) (g : IsSpread l e) : d = e := by
  obtain ⟨a, a1, b, b1, ab, rfl⟩ := h
  obtain ⟨c, c1, u, u1, cu, rfl⟩ := g
  have := ab c c1
  have := ab u u1
  have := cu a a1
  have := cu b b1
  omega
theorem bits_inj {a b : List Bool} (h : bitsStr a = bitsStr b) : a = b := by
  have back : ∀ l : List Bool, (l.map bitC).map (· == 49) = l := fun l => by
    rw [List.map_map]
    conv => rhs; rw [← List.map_id l]
    exact List.map_congr_left fun x _ => by cases x <;> rfl
  have h1 : (bitsStr a).cps.toList = (bitsStr b).cps.toList := by rw [h]
  have h2 : a.map bitC = b.map bitC := by
    unfold bitsStr at h1
    simpa using h1
  rw [← back a, ← back b, h2]
theorem far_gate {bits : List Bool} {f : Form} (G : Gated1 bits f) (h1 : 1 ≤ bits.length) (h2 : bits.length ≤ 12) (hc : 1 ≤ bits.count true) {d : Int} (S : IsSpread (leads f.round f.len) d) :
    ∃ top bottom a : Nat, d / gcdZ d f.round.length = (top : Int) ∧ (f.round.length : Int) / gcdZ d f.round.length = (bottom : Int) ∧ ((bits.count true : Nat) : Int) / gcdZ (bits.count true : Nat) (bits.length : Nat) = (a : Int) ∧ 1 ≤ a ∧ (a - 1) * bottom ≤ top * a ∧
      evenB f d = decide (top * a = (a - 1) * bottom) ∧ (bits = evenBits (bits.count true) bits.length → top * a = (a - 1) * bottom) ∧ 1 ≤ bottom := by
  obtain ⟨hi, hi1, lo, lo1, hb, rfl⟩ := S
  have hle := (hb hi hi1).1
  obtain ⟨D, hD⟩ := Int.eq_ofNat_of_zero_le (show 0 ≤ hi - lo by omega)
  have hn : 0 < f.round.length := List.length_pos_iff.mpr G.ne
  have hpos := (G.wf.rnd G.ne).pos
  have hL := G.len
  generalize hLL : f.len.toNat = L at hL
  have hrate := G.rate
  rw [hLL] at hrate
  have hLpos : 0 < L := by omega
  obtain ⟨ra, rb⟩ := same_rate hn hLpos hc h1 hrate
  have g1 : 0 < Nat.gcd f.round.length L := Nat.gcd_pos_of_pos_left _ hn
  obtain ⟨a, ha⟩ := Nat.gcd_dvd_left f.round.length L
  obtain ⟨b, hb2⟩ := Nat.gcd_dvd_right f.round.length L
  have ea : f.round.length / Nat.gcd f.round.length L = a := by
    conv => lhs; lhs; rw [ha]
    exact Nat.mul_div_cancel_left _ g1
  have eb : L / Nat.gcd f.round.length L = b := by
    conv => lhs; lhs; rw [hb2]
    exact Nat.mul_div_cancel_left _ g1
  have co : Nat.Coprime a b := by
    have := Nat.coprime_div_gcd_div_gcd g1
    rwa [ea, eb] at this
  have hapos : 0 < a := by
    rcases Nat.eq_zero_or_pos a with z | z
    · rw [z, Nat.mul_zero] at ha; omega
    · exact z
  have g2 : 0 < Nat.gcd D f.round.length := Nat.gcd_pos_of_pos_right _ hn
  obtain ⟨top, htop⟩ := Nat.gcd_dvd_left D f.round.length
  obtain ⟨bottom, hbot⟩ := Nat.gcd_dvd_right D f.round.length
  have et : D / Nat.gcd D f.round.length = top := by
    conv => lhs; lhs; rw [htop]
    exact Nat.mul_div_cancel_left _ g2
  have ebt : f.round.length / Nat.gcd D f.round.length = bottom := by
    conv => lhs; lhs; rw [hbot]
    exact Nat.mul_div_cancel_left _ g2
  have hbpos : 0 < bottom := by
    rcases Nat.eq_zero_or_pos bottom with z | z
    · rw [z, Nat.mul_zero] at hbot; omega
    · exact z
  have hlow := lead_low (g := Nat.gcd f.round.length L) ha (by rw [hL]; exact congrArg _ hb2) g1 hapos co hb
  generalize hgg : Nat.gcd f.round.length L = g at *
  have hlowN : g * (a - 1) ≤ D := by
    have : ((g * (a - 1) : Nat) : Int) ≤ (D : Int) := by
      rw [Int.natCast_mul, ← hD, Int.natCast_sub hapos]
      exact hlow
    omega
  generalize hkk : Nat.gcd D f.round.length = k at *
  have key : (a - 1) * bottom ≤ top * a := by
    have : k * ((a - 1) * bottom) ≤ k * (top * a) := by
      calc k * ((a - 1) * bottom) = (a - 1) * (k * bottom) := by rw [Nat.mul_left_comm]
        _ = (a - 1) * (g * a) := by rw [← hbot, ← ha]
        _ = g * (a - 1) * a := by rw [Nat.mul_left_comm, Nat.mul_assoc]
        _ ≤ D * a := Nat.mul_le_mul_right _ hlowN
        _ = k * (top * a) := by rw [← Nat.mul_assoc, ← htop]
    exact Nat.le_of_mul_le_mul_left this g2
  have hgz : gcdZ (hi - lo) (f.round.length : Int) = ((k : Nat) : Int) := by
    rw [hD, gcdZ_nat, hkk]
  have cotb : Nat.gcd top bottom = 1 := by
    have := Nat.coprime_div_gcd_div_gcd (m := D) (n := f.round.length) (by rw [hkk]; exact g2)
    rw [hkk, et, ebt] at this
    exact this
  refine ⟨top, bottom, a, ?_, ?_, ?_, hapos, key, ?_, fun hev => ?_, hbpos⟩
  · rw [hgz, hD, ← Int.natCast_ediv, et]
  · rw [hgz, ← Int.natCast_ediv, ebt]
  · rw [gcdZ_nat, ← Int.natCast_ediv, ← ra, ea]
  · have hr1 : (rateZ f).1 = (a : Int) := by
      unfold rateZ
      rw [if_pos G.ne, hL, gcdZ_nat, hgg, ← Int.natCast_ediv, ea]
    unfold evenB
    rw [hr1, hgz, hD, ← Int.natCast_ediv, ← Int.natCast_ediv, et, ebt]
    have := near_iff (top := top) (bottom := bottom) hbpos hapos cotb
    by_cases h : top * a = (a - 1) * bottom
    · obtain ⟨x, y⟩ := this.mp h
      rw [decide_eq_true h, decide_eq_true (show (top : Int) = (a : Int) - 1 by omega), decide_eq_true (show (bottom : Int) = (a : Int) by omega)]
      rfl
    · rw [decide_eq_false h]
      by_cases x : (top : Int) = (a : Int) - 1
      · have y : ¬ (bottom : Int) = (a : Int) := fun y => h (this.mpr ⟨by omega, by omega⟩)
        rw [decide_eq_false y, Bool.and_false]
      · rw [decide_eq_false x, Bool.false_and]
  · -- the even one
    have hpq : bits.count true ≤ bits.length := List.count_le_length
    have hen := even_nums bits.length h2 (bits.count true) (by omega) hc hpq
    rw [← hev] at hen
    have hrt := G.rt
    have hle2 := G.le
    rw [hL] at hle2
    generalize bits.count true = p at *
    generalize bits.length = q at *
    have g3 : 0 < Nat.gcd p q := Nat.gcd_pos_of_pos_left _ hc
    have hp3 : p = Nat.gcd p q * a := by
      have := Nat.mul_div_cancel' (Nat.gcd_dvd_left p q)
      rw [← ra, ea] at this
      exact this.symm
    have hq3 : q = Nat.gcd p q * b := by
      have := Nat.mul_div_cancel' (Nat.gcd_dvd_right p q)
      rw [← rb, eb] at this
      exact this.symm
    generalize Nat.gcd p q = G3 at g3 hp3 hq3
    have hbpos2 : 0 < b := by
      rcases Nat.eq_zero_or_pos b with z | z
      · rw [z, Nat.mul_zero] at hb2; omega
      · exact z
    have hgG : g ≤ G3 := by
      have : g * b ≤ G3 * b := by rw [← hb2, ← hq3]; omega
      exact Nat.le_of_mul_le_mul_right this hbpos2
    have hmp : f.round.length ≤ p := by
      rw [ha, hp3]
      exact Nat.mul_le_mul_right _ hgG
    have hget : ∀ k, k < f.round.length → f.round.getD k 0 = ((k * q / p : Nat) : Int) := fun k hk => by
      rw [← rt_lt (len := f.len) hk, hrt k, hen, rt_lt (by rw [List.length_map, List.length_map, List.length_range]; omega), getD_eq (by rw [List.length_map, List.length_map, List.length_range]; omega)]
      simp
    have he : ∀ k, k < f.round.length → f.round.getD k 0 - f.round.getD 0 0 = ((k * b / a : Nat) : Int) := fun k hk => by
      rw [hget k hk, hget 0 hn, Nat.zero_mul, Nat.zero_div]
      have : k * q / p = k * b / a := by
        rw [hp3, hq3, Nat.mul_left_comm]
        exact Nat.mul_div_mul_left _ _ g3
      rw [this]
      omega
    have hup := lead_even (g := g) (len := f.len) ha (by rw [hL]; exact congrArg _ hb2) hapos he
    have hDle : D ≤ g * (a - 1) := by
      have x1 := (hup hi hi1).2
      have x2 := (hup lo lo1).1
      have : (D : Int) ≤ ((g * (a - 1) : Nat) : Int) := by
        rw [Int.natCast_mul, ← hD, Int.natCast_sub hapos]
        have x3 : hi - lo ≤ (g : Int) * ((a : Int) - 1) := by omega
        exact x3
      omega
    have hDe : D = g * (a - 1) := Nat.le_antisymm hDle hlowN
    have : k * (top * a) = k * ((a - 1) * bottom) := by
      calc k * (top * a) = D * a := by rw [← Nat.mul_assoc, ← htop]
        _ = (a - 1) * (g * a) := by rw [hDe, Nat.mul_left_comm, Nat.mul_assoc]
        _ = (a - 1) * (k * bottom) := by rw [← hbot, ← ha]
        _ = k * ((a - 1) * bottom) := by rw [Nat.mul_left_comm]
    exact Nat.eq_of_mul_eq_mul_left g2 this
theorem sc_law : FnScope ["_law_script", "_law_h", "_law_q", "_law_p", "_law_least", "_law_even", "_law_every", "_law_text", "_law_beat", "_law_top", "_law_bottom", "_law_near"] ["_law_script"] (defScope s_law) := ⟨rfl, rfl, rfl, by decide +kernel, rfl, by decide +kernel, by decide +kernel⟩
def spLaw (K : PySem.W.Frag) : Sp := fun vs H Q _ => ∃ (a : Addr) (ns : List Int), vs = [.ref a] ∧ SqL K H a (ns.map V.int) ∧ ns.length ≤ 63 ∧ ∀ H', Q (.bl true) H'
theorem ok_law {f C C2 : Addr} {fd : FuncData} (F : Fun K "law" "law" s_law f fd) (B : Blt mg) (c__law_mix : Dn P w K mg base 1 "_law_mix" (spMix K)) (c__law_next : Dn P w K mg base 1 "_law_next" spNext)
    (c_signs : Dn P w K mg base 1 "signs" spEven) (c__law_all : Dn P w K mg base 1 "_law_all" spAll11) (c__law_alike : Dn P w K mg base 41 "_law_alike" (spAlike K 40)) (c__law_reduced : Dn P w K mg base 2 "_law_reduced" spReduced)
    (c_far : Dn P w K mg base 72 "far" (spFar K False C C2)) (c_is_even : Dn P w K mg base 72 "is_even" (spIsEven K False C C2)) : FnOk P w K mg base CX0 100 f fd ["_law_script"] (spLaw K) := by
  have nd := sc_law.nd
  refine F.ok sc_law (fun vs H Q E h => ?_) (fun cdv A outer s H vs Q E hr h => ?_)
  · obtain ⟨a, ns, rfl, _⟩ := h
    rfl
  · obtain ⟨a, ns, rfl, hS, hl, q⟩ := h
    refine ⟨_, 
    (pss_cons (ps_set (i := 1) nd rfl (Or.inl rfl) (pe_d c__law_mix hr (by decide) passL (by rfl) (pa_cons (pv 0) (pa_cons pe_int pa_nil))))
    (pss_cons (ps_set (i := 2) nd rfl (Or.inl rfl) (pe_op op_add pe_int (pe_d c__law_next hr (by decide) passL (by rfl) (pa_cons (pv 1) (pa_cons (pe_ix (ixl (K := K) rfl) (pe_lstN (pa_cons pe_int (pa_cons pe_int (pa_cons pe_int (pa_cons pe_int pa_nil))))) (pe_d c__law_next hr (by decide) passL (by rfl) (pa_cons (pv 1) (pa_cons pe_int pa_nil))) (fun _ _ => rfl)) pa_nil)))))
    (pss_cons (ps_set (i := 3) nd rfl (Or.inl rfl) (pe_op op_add pe_int (pe_d c__law_next hr (by decide) passL (by rfl) (pa_cons (pv 1) (pa_cons (pv 2) pa_nil)))))
    (pss_cons (ps_set (i := 4) nd rfl (Or.inl rfl) (pe_ix (ixt (K := K) rfl) (pe_d c__law_reduced hr (by decide) passL (by rfl) (pa_cons (pv 3) (pa_cons (pv 2) pa_nil))) pe_int (fun _ _ => rfl)))
    (pss_cons (ps_set (i := 5) nd rfl (Or.inl rfl) (pe_d c_signs hr (by decide) passL (by rfl) (pa_cons (pv 3) (pa_cons (pv 2) pa_nil))))
    (pss_cons (ps_set (i := 6) nd rfl (Or.inl rfl) (pe_d c__law_all hr (by decide) passL (by rfl) (pa_cons (pv 2) (pa_cons (pv 3) pa_nil))))
    (pss_cons (ps_if (pt_cmpR (niK (K := K) rfl) (pv 5) (pv 6) (by rfl)) (pss_one (ps_ret pe_bl)) pss_nil)
    (pss_cons (ps_for PassesOwn.never rfl (pi_list (pv 6)) (pg_name (i := 7) nd rfl (Or.inl rfl)) (pss_cons (ps_set (i := 8) nd rfl (Or.inl rfl) (pe_tupN (pa_cons pe_str (pa_cons (pv 7) (pa_cons (pe_tupN (pa_cons pe_str pa_nil)) pa_nil)))))
    (pss_cons (ps_asg (pe_d c_far hr (by decide) passL (by rfl) (pa_cons (pv 8) pa_nil)) (pg_tup rfl (pgs_cons (pg_name (i := 9) nd rfl (Or.inl rfl)) (pgs_cons (pg_name (i := 10) nd rfl (Or.inl rfl)) pgs_nil))))
    (pss_cons (ps_if (pt_cmpR op_lt (pe_op op_mul (pv 9) (pv 4)) (pe_op op_mul (pe_op op_sub (pv 4) pe_int) (pv 10)) (nomark _)) (pss_one (ps_ret pe_bl)) pss_nil)
    (pss_cons (ps_set (i := 11) nd rfl (Or.inl rfl) (pe_cmpR op_eq (pe_op op_mul (pv 9) (pv 4)) (pe_op op_mul (pe_op op_sub (pv 4) pe_int) (pv 10)) (nomark _)))
    (pss_one (ps_if (PW.pt (pw_or (pt_not (pt_val (pe_d c__law_alike hr (by decide) passL (by rfl) (pa_cons (pe_d c_is_even hr (by decide) passL (by rfl) (pa_cons (pv 8) pa_nil)) (pa_cons (pv 11) pa_nil))))) (pw_or1 (PW.pt (pw_and (pt_cmpR op_eq (pv 7) (pv 5) (nomark _)) (pw_and1 (pt_not (pt_val (pv 11))))))))) (pss_one (ps_ret pe_bl)) pss_nil)))))))
    (pss_one (ps_ret pe_bl)))))))))), ?_⟩
    try dsimp only [cxOf, Cx.nox, Cx.wish]
    walk_at "go"
    refine ⟨a, ns, 41, rfl, hS, hl, fun h H1 e1 hR => ?_⟩
    walk_at "go"
    refine nL_intro fun p1 H2 n1 e2 hp1 => ?_
    walk_at "go"
    refine ⟨by walk_at "seq", by omega, by omega, fun r1 H3 a1 b1 e3 => ?_⟩
    walk_at "go"
    have hfour : ∃ z : Int, atI [V.int 8, V.int 8, V.int 8, V.int 10] r1 = some (.int z) ∧ 0 < z ∧ z ≤ 10 := by
      have : r1 = 0 ∨ r1 = 1 ∨ r1 = 2 ∨ r1 = 3 := by omega
      rcases this with rfl | rfl | rfl | rfl
      · exact ⟨8, atI_nat (j := 0) rfl, by omega, by omega⟩
      · exact ⟨8, atI_nat (j := 1) rfl, by omega, by omega⟩
      · exact ⟨8, atI_nat (j := 2) rfl, by omega, by omega⟩
      · exact ⟨10, atI_nat (j := 3) rfl, by omega, by omega⟩
    obtain ⟨z, hz1, hz2, hz3⟩ := hfour
    refine ⟨p1, _, r1, _, rfl, rfl, .of (e3 _ _ hp1), hz1, ?_⟩
    walk_at "go"
    refine ⟨by walk_at "seq", by omega, by omega, fun r2 H4 a2 b2 e4 => ?_⟩
    walk_at "go"
    refine ⟨by walk_at "seq", by omega, by omega, fun r3 H5 a3 b3 e5 => ?_⟩
    obtain ⟨qn, rfl⟩ := Int.eq_ofNat_of_zero_le a2
    obtain ⟨pn, rfl⟩ := Int.eq_ofNat_of_zero_le a3
    walk_at "go"
    have g0 := gcdZ_pos (x := 1 + (pn : Int)) (y := 1 + (qn : Int)) (by omega)
    have g1 := gcdZ_le (x := 1 + (pn : Int)) (y := 1 + (qn : Int)) (by omega)
    refine ⟨g0, by omega, ?_⟩
    refine nT_intro fun p2 H6 n6 e6 hp6 => ?_
    walk_at "go"
    rename_i H7 e7
    intro L H8 e8 nL hL
    have hcE : (evenBits (1 + pn) (1 + qn)).count true = 1 + pn ∧ (evenBits (1 + pn) (1 + qn)).getD 0 false = true := even_facts (1 + qn) (by omega) (1 + pn) (by omega) (by omega) (by omega)
    have hlE := even_length (1 + pn) (1 + qn)
    have hmemE : (evenBits (1 + pn) (1 + qn), 1 + pn) ∈ allAt (1 + qn) (1 + pn) (1 + qn) := by
      have := all_has (bits := evenBits (1 + pn) (1 + qn)) hlE hcE.1 (1 + qn) (Nat.le_refl _)
      rw [List.take_of_length_le (Nat.le_of_eq hlE), hcE.1] at this
      exact this
    have hin : inV (.str (bitsStr (evenBits (1 + pn) (1 + qn)))) ((allAt (1 + qn) (1 + pn) (1 + qn)).map fun r => V.str (bitsStr r.1)) = true := by
      unfold inV
      rw [List.any_map, List.any_eq_true]
      refine ⟨_, hmemE, ?_⟩
      show ((bitsStr (evenBits (1 + pn) (1 + qn)) == bitsStr (evenBits (1 + pn) (1 + qn))) : Bool) = true
      exact beq_self_eq_true _
    walk_at "go"
    refine ⟨by rw [List.all_map]; exact List.all_eq_true.mpr fun _ _ => rfl, ?_⟩
    rw [show (if true = true then !inV (.str (bitsStr (evenBits (1 + pn) (1 + qn)))) ((allAt (1 + qn) (1 + pn) (1 + qn)).map fun r => V.str (bitsStr r.1)) else inV (.str (bitsStr (evenBits (1 + pn) (1 + qn)))) ((allAt (1 + qn) (1 + pn) (1 + qn)).map fun r => V.str (bitsStr r.1))) = false by rw [if_pos rfl, hin]; rfl]
    walk_at "go"
    refine for_list (K := K) (a := L) (xs := (allAt (1 + qn) (1 + pn) (1 + qn)).map fun r => V.str (bitsStr r.1)) (fun j σ H' => ∃ y7 y8 y9 y10 y11 : Option V, σ = [some (.ref a), some (.ref h), some (.int (1 + (qn : Int))), some (.int (1 + (pn : Int))), some (.int ((1 + (pn : Int)) / gcdZ (1 + (pn : Int)) (1 + (qn : Int)))), some (.str (bitsStr (evenBits (1 + pn) (1 + qn)))), some (.ref L), y7, y8, y9, y10, y11] ∧ Ex H8 H')
      ⟨_, _, _, _, _, rfl, Ex.refl _⟩ (fun j σ H' _ ⟨_, _, _, _, _, _, e⟩ => .of (e _ _ hL)) ?_ ?_
    · rintro j x σ H9 hj ⟨y7, y8, y9, y10, y11, rfl, e9⟩
      obtain ⟨r, hr, rfl⟩ : ∃ r ∈ allAt (1 + qn) (1 + pn) (1 + qn), x = V.str (bitsStr r.1) := by
        rw [List.getElem?_map] at hj
        obtain ⟨r, h1, h2⟩ := Option.map_eq_some_iff.mp hj
        exact ⟨r, List.mem_of_getElem? h1, h2.symm⟩
      obtain ⟨k1, k2, k3, k4⟩ := all_ok (1 + qn) (1 + pn) (by omega) (1 + qn) (Nat.le_refl _) r hr
      obtain ⟨bits, m⟩ := r
      dsimp only at k1 k2 k3 k4
      have hcount : bits.count true = 1 + pn := by omega
      obtain ⟨fo, G⟩ := gate_source (bits := bits) (by omega) (by omega) (by omega)
      walk_at "go"
      refine nT_intro fun t1 HA nA eA hA => ?_
      walk_at "go"
      refine nT_intro fun t2 HB nB eB hB => ?_
      walk_at "go"
      have hbd : Dp K HB (.ref t2) (Beat.gate bits .source).data := .tup (.of hB) (.cons (.str _) (.cons (.str _) (.cons (.tup (.of (eB _ _ hA)) (.cons (.str _) .nil)) .nil)))
      refine ⟨_, .gate bits .source, rfl, hbd, ⟨by omega, by omega, trivial⟩, .inr trivial, by show 1 + 1 ≤ 30; decide, fun f' hf' tl hne d S p HC eC np hp => ?_, fun f' hf' he => absurd he (by rw [G.fm] at hf'; cases hf'; exact G.ne), fun z => by rw [G.fm] at z; cases z⟩
      rw [G.fm] at hf'
      cases hf'
      obtain ⟨top, bottom, aa, f1, f2, f3, f4, f5, f6, f7, f8⟩ := far_gate G (by omega) (by omega) (by omega) S
      rw [f1, f2] at hp
      have f3' : (1 + (pn : Int)) / gcdZ (1 + (pn : Int)) (1 + (qn : Int)) = (aa : Int) := by
        rw [hcount, k1] at f3
        exact f3
      have haa : (aa : Int) ≤ 10 := by
        rw [← f3']
        exact Int.le_trans (Int.ediv_le_self _ (by omega)) (by omega)
      have h5 : ((aa : Int) - 1) * (bottom : Int) ≤ (top : Int) * (aa : Int) := by
        have : (((aa - 1) * bottom : Nat) : Int) ≤ ((top * aa : Nat) : Int) := Int.ofNat_le.mpr f5
        rw [Int.natCast_mul, Int.natCast_mul, Int.natCast_sub f4] at this
        exact this
      have hN : decide (V.int ((top : Int) * (aa : Int)) = V.int (((aa : Int) - 1) * (bottom : Int))) = decide (top * aa = (aa - 1) * bottom) := by
        refine decide_eq_decide.mpr ⟨fun z => ?_, fun z => ?_⟩
        · have z := V.int.inj z
          have : ((top * aa : Nat) : Int) = (((aa - 1) * bottom : Nat) : Int) := by
            rw [Int.natCast_mul, Int.natCast_mul, Int.natCast_sub f4]
            exact z
          omega
        · congr 1
          have : ((top * aa : Nat) : Int) = (((aa - 1) * bottom : Nat) : Int) := by rw [z]
          rw [Int.natCast_mul, Int.natCast_mul, Int.natCast_sub f4] at this
          exact this
      walk_at "go"
      rw [f3']
      refine ite2 (fun c => ?_) (fun c => ?_)
      · exact absurd (of_decide_eq_true c) (Int.not_lt.mpr h5)
      walk_at "go"
      refine ⟨_, .gate bits .source, rfl, eC.dp hbd, ⟨by omega, by omega, trivial⟩, .inr trivial, by show 1 + 1 ≤ 30; decide, fun f' hf' tl' hne' d' S' HD eD => ?_, fun f' hf' he => absurd he (by rw [G.fm] at hf'; cases hf'; exact G.ne), fun z => by rw [G.fm] at z; cases z⟩
      rw [G.fm] at hf'
      cases hf'
      have hdd : d' = d := spread_uniq S' S
      subst hdd
      rw [f6]
      walk_at "go"
      refine ⟨_, _, .bool (decide (top * aa = (aa - 1) * bottom)), rfl, .bl _, hN ▸ .bl _, by rw [shaped_iff]; simp [PyData.canLay0, PyData.depth], by simp [narrow], by simp [PyData.depth], fun HE eE => ?_⟩
      walk_at "go"
      have e8E : Ex H8 HE := by walk_at "ex"
      refine ite2 (fun c => ?_) (fun c => ?_)
      · have c : V.str (bitsStr bits) = V.str (bitsStr (evenBits (1 + pn) (1 + qn))) := of_decide_eq_true c
        have hev := bits_inj (V.str.inj c)
        have hf7 := f7 (by rw [hcount, k1]; exact hev)
        have hNt : decide ((fun i j => V.int (i * j)) (top : Int) (aa : Int) = (fun i j => V.int (i * j)) ((aa : Int) - 1) (bottom : Int)) = true := hN.trans (decide_eq_true hf7)
        rw [hNt]
        walk_at "go"
        exact ⟨_, _, _, _, _, rfl, e8E⟩
      · walk_at "go"
        exact ⟨_, _, _, _, _, rfl, e8E⟩
    · rintro σ H9 ⟨y7, y8, y9, y10, y11, rfl, e9⟩
      walk_at "go"
      exact q _

end
end TD
namespace TD
open PySem PySem.Spec PyProof.Rows L2
theorem all_mk {l : PySem.W.OpenLaw} {w : World} {K : PySem.W.Frag} {h : Heap} {mg : Str → Option Value} {fa f_of_two f_led_form f_form_of f_made_of f_divisor f_multiple f_need_short f_gaps_round f_tick_at f_settled f_gated f_later f_is_whole f_are_signs f_is_every f_inner_of f_is_beat f_need_beat f_form f_reduced f_rate_of f__law_mix f__law_next f_signs f_need_endless f_endless f_far_of f_far f_is_even f__law_common f__law_reduced f__law_all f__law_alike f_law : Addr} (X : K.In h) (G : h.Ns mainGlobals mg) (hfa : mg "law" = some (.ref fa))
    {od_of_two an_of_two : Option Addr} {sl_of_two : Array (Option Value)} {oc_of_two kV_of_two dc_of_two pm_of_two cd_of_two ct_of_two : Value}
    {od_led_form an_led_form : Option Addr} {sl_led_form : Array (Option Value)} {oc_led_form kV_led_form dc_led_form pm_led_form cd_led_form ct_led_form : Value}
    {od_form_of an_form_of : Option Addr} {sl_form_of : Array (Option Value)} {oc_form_of kV_form_of dc_form_of pm_form_of cd_form_of ct_form_of : Value}
    {od_made_of an_made_of : Option Addr} {sl_made_of : Array (Option Value)} {oc_made_of kV_made_of dc_made_of pm_made_of cd_made_of ct_made_of : Value}
    {od_divisor an_divisor : Option Addr} {sl_divisor : Array (Option Value)} {oc_divisor kV_divisor dc_divisor pm_divisor cd_divisor ct_divisor : Value}
    {od_multiple an_multiple : Option Addr} {sl_multiple : Array (Option Value)} {oc_multiple kV_multiple dc_multiple pm_multiple cd_multiple ct_multiple : Value}
    {od_need_short an_need_short : Option Addr} {sl_need_short : Array (Option Value)} {oc_need_short kV_need_short dc_need_short pm_need_short cd_need_short ct_need_short : Value}
    {od_gaps_round an_gaps_round : Option Addr} {sl_gaps_round : Array (Option Value)} {oc_gaps_round kV_gaps_round dc_gaps_round pm_gaps_round cd_gaps_round ct_gaps_round : Value}
    {od_tick_at an_tick_at : Option Addr} {sl_tick_at : Array (Option Value)} {oc_tick_at kV_tick_at dc_tick_at pm_tick_at cd_tick_at ct_tick_at : Value}
    {od_settled an_settled : Option Addr} {sl_settled : Array (Option Value)} {oc_settled kV_settled dc_settled pm_settled cd_settled ct_settled : Value}
    {od_gated an_gated : Option Addr} {sl_gated : Array (Option Value)} {oc_gated kV_gated dc_gated pm_gated cd_gated ct_gated : Value}
    {od_later an_later : Option Addr} {sl_later : Array (Option Value)} {oc_later kV_later dc_later pm_later cd_later ct_later : Value}
    {od_is_whole an_is_whole : Option Addr} {sl_is_whole : Array (Option Value)} {oc_is_whole kV_is_whole dc_is_whole pm_is_whole cd_is_whole ct_is_whole : Value}
    {od_are_signs an_are_signs : Option Addr} {sl_are_signs : Array (Option Value)} {oc_are_signs kV_are_signs dc_are_signs pm_are_signs cd_are_signs ct_are_signs : Value}
    {od_is_every an_is_every : Option Addr} {sl_is_every : Array (Option Value)} {oc_is_every kV_is_every dc_is_every pm_is_every cd_is_every ct_is_every : Value}
    {od_inner_of an_inner_of : Option Addr} {sl_inner_of : Array (Option Value)} {oc_inner_of kV_inner_of dc_inner_of pm_inner_of cd_inner_of ct_inner_of : Value}
    {od_is_beat an_is_beat : Option Addr} {sl_is_beat : Array (Option Value)} {oc_is_beat kV_is_beat dc_is_beat pm_is_beat cd_is_beat ct_is_beat : Value}
    {od_need_beat an_need_beat : Option Addr} {sl_need_beat : Array (Option Value)} {oc_need_beat kV_need_beat dc_need_beat pm_need_beat cd_need_beat ct_need_beat : Value}
    {od_form an_form : Option Addr} {sl_form : Array (Option Value)} {oc_form kV_form dc_form pm_form cd_form ct_form : Value}
    {od_reduced an_reduced : Option Addr} {sl_reduced : Array (Option Value)} {oc_reduced kV_reduced dc_reduced pm_reduced cd_reduced ct_reduced : Value}
    {od_rate_of an_rate_of : Option Addr} {sl_rate_of : Array (Option Value)} {oc_rate_of kV_rate_of dc_rate_of pm_rate_of cd_rate_of ct_rate_of : Value}
    {od__law_mix an__law_mix : Option Addr} {sl__law_mix : Array (Option Value)} {oc__law_mix kV__law_mix dc__law_mix pm__law_mix cd__law_mix ct__law_mix : Value}
    {od__law_next an__law_next : Option Addr} {sl__law_next : Array (Option Value)} {oc__law_next kV__law_next dc__law_next pm__law_next cd__law_next ct__law_next : Value}
    {od_signs an_signs : Option Addr} {sl_signs : Array (Option Value)} {oc_signs kV_signs dc_signs pm_signs cd_signs ct_signs : Value}
    {od_need_endless an_need_endless : Option Addr} {sl_need_endless : Array (Option Value)} {oc_need_endless kV_need_endless dc_need_endless pm_need_endless cd_need_endless ct_need_endless : Value}
    {od_endless an_endless : Option Addr} {sl_endless : Array (Option Value)} {oc_endless kV_endless dc_endless pm_endless cd_endless ct_endless : Value}
    {od_far_of an_far_of : Option Addr} {sl_far_of : Array (Option Value)} {oc_far_of kV_far_of dc_far_of pm_far_of cd_far_of ct_far_of : Value}
    {od_far an_far : Option Addr} {sl_far : Array (Option Value)} {oc_far kV_far dc_far pm_far cd_far ct_far : Value}
    {od_is_even an_is_even : Option Addr} {sl_is_even : Array (Option Value)} {oc_is_even kV_is_even dc_is_even pm_is_even cd_is_even ct_is_even : Value}
    {od__law_common an__law_common : Option Addr} {sl__law_common : Array (Option Value)} {oc__law_common kV__law_common dc__law_common pm__law_common cd__law_common ct__law_common : Value}
    {od__law_reduced an__law_reduced : Option Addr} {sl__law_reduced : Array (Option Value)} {oc__law_reduced kV__law_reduced dc__law_reduced pm__law_reduced cd__law_reduced ct__law_reduced : Value}
    {od__law_all an__law_all : Option Addr} {sl__law_all : Array (Option Value)} {oc__law_all kV__law_all dc__law_all pm__law_all cd__law_all ct__law_all : Value}
    {od__law_alike an__law_alike : Option Addr} {sl__law_alike : Array (Option Value)} {oc__law_alike kV__law_alike dc__law_alike pm__law_alike cd__law_alike ct__law_alike : Value}
    {od_law an_law : Option Addr} {sl_law : Array (Option Value)} {oc_law kV_law dc_law pm_law cd_law ct_law : Value}
    (a_of_two : PySem.W.nsIn K mainGlobals "of_two" = some (some (.ref f_of_two))) (l_of_two : K.lookup f_of_two = some ⟨oc_of_two, od_of_two, .func (PySem.W.fnOf "of_two" "of_two" (defArgs s_of_two) (defBody s_of_two) (defScope s_of_two) .none kV_of_two dc_of_two pm_of_two an_of_two cd_of_two ct_of_two), sl_of_two⟩) (e_of_two : PySem.W.codeIn K cd_of_two "of_two" = true) (k_of_two : PySem.W.keepIn K (.ref f_of_two) = true)
    (a_led_form : PySem.W.nsIn K mainGlobals "led_form" = some (some (.ref f_led_form))) (l_led_form : K.lookup f_led_form = some ⟨oc_led_form, od_led_form, .func (PySem.W.fnOf "led_form" "led_form" (defArgs s_led_form) (defBody s_led_form) (defScope s_led_form) .none kV_led_form dc_led_form pm_led_form an_led_form cd_led_form ct_led_form), sl_led_form⟩) (e_led_form : PySem.W.codeIn K cd_led_form "led_form" = true) (k_led_form : PySem.W.keepIn K (.ref f_led_form) = true)
    (a_form_of : PySem.W.nsIn K mainGlobals "form_of" = some (some (.ref f_form_of))) (l_form_of : K.lookup f_form_of = some ⟨oc_form_of, od_form_of, .func (PySem.W.fnOf "form_of" "form_of" (defArgs s_form_of) (defBody s_form_of) (defScope s_form_of) .none kV_form_of dc_form_of pm_form_of an_form_of cd_form_of ct_form_of), sl_form_of⟩) (e_form_of : PySem.W.codeIn K cd_form_of "form_of" = true) (k_form_of : PySem.W.keepIn K (.ref f_form_of) = true)
    (a_made_of : PySem.W.nsIn K mainGlobals "made_of" = some (some (.ref f_made_of))) (l_made_of : K.lookup f_made_of = some ⟨oc_made_of, od_made_of, .func (PySem.W.fnOf "made_of" "made_of" (defArgs s_made_of) (defBody s_made_of) (defScope s_made_of) .none kV_made_of dc_made_of pm_made_of an_made_of cd_made_of ct_made_of), sl_made_of⟩) (e_made_of : PySem.W.codeIn K cd_made_of "made_of" = true) (k_made_of : PySem.W.keepIn K (.ref f_made_of) = true)
    (a_divisor : PySem.W.nsIn K mainGlobals "divisor" = some (some (.ref f_divisor))) (l_divisor : K.lookup f_divisor = some ⟨oc_divisor, od_divisor, .func (PySem.W.fnOf "divisor" "divisor" (defArgs s_divisor) (defBody s_divisor) (defScope s_divisor) .none kV_divisor dc_divisor pm_divisor an_divisor cd_divisor ct_divisor), sl_divisor⟩) (e_divisor : PySem.W.codeIn K cd_divisor "divisor" = true) (k_divisor : PySem.W.keepIn K (.ref f_divisor) = true)
    (a_multiple : PySem.W.nsIn K mainGlobals "multiple" = some (some (.ref f_multiple))) (l_multiple : K.lookup f_multiple = some ⟨oc_multiple, od_multiple, .func (PySem.W.fnOf "multiple" "multiple" (defArgs s_multiple) (defBody s_multiple) (defScope s_multiple) .none kV_multiple dc_multiple pm_multiple an_multiple cd_multiple ct_multiple), sl_multiple⟩) (e_multiple : PySem.W.codeIn K cd_multiple "multiple" = true) (k_multiple : PySem.W.keepIn K (.ref f_multiple) = true)
    (a_need_short : PySem.W.nsIn K mainGlobals "need_short" = some (some (.ref f_need_short))) (l_need_short : K.lookup f_need_short = some ⟨oc_need_short, od_need_short, .func (PySem.W.fnOf "need_short" "need_short" (defArgs s_need_short) (defBody s_need_short) (defScope s_need_short) .none kV_need_short dc_need_short pm_need_short an_need_short cd_need_short ct_need_short), sl_need_short⟩) (e_need_short : PySem.W.codeIn K cd_need_short "need_short" = true) (k_need_short : PySem.W.keepIn K (.ref f_need_short) = true)
    (a_gaps_round : PySem.W.nsIn K mainGlobals "gaps_round" = some (some (.ref f_gaps_round))) (l_gaps_round : K.lookup f_gaps_round = some ⟨oc_gaps_round, od_gaps_round, .func (PySem.W.fnOf "gaps_round" "gaps_round" (defArgs s_gaps_round) (defBody s_gaps_round) (defScope s_gaps_round) .none kV_gaps_round dc_gaps_round pm_gaps_round an_gaps_round cd_gaps_round ct_gaps_round), sl_gaps_round⟩) (e_gaps_round : PySem.W.codeIn K cd_gaps_round "gaps_round" = true) (k_gaps_round : PySem.W.keepIn K (.ref f_gaps_round) = true)
    (a_tick_at : PySem.W.nsIn K mainGlobals "tick_at" = some (some (.ref f_tick_at))) (l_tick_at : K.lookup f_tick_at = some ⟨oc_tick_at, od_tick_at, .func (PySem.W.fnOf "tick_at" "tick_at" (defArgs s_tick_at) (defBody s_tick_at) (defScope s_tick_at) .none kV_tick_at dc_tick_at pm_tick_at an_tick_at cd_tick_at ct_tick_at), sl_tick_at⟩) (e_tick_at : PySem.W.codeIn K cd_tick_at "tick_at" = true) (k_tick_at : PySem.W.keepIn K (.ref f_tick_at) = true)
    (a_settled : PySem.W.nsIn K mainGlobals "settled" = some (some (.ref f_settled))) (l_settled : K.lookup f_settled = some ⟨oc_settled, od_settled, .func (PySem.W.fnOf "settled" "settled" (defArgs s_settled) (defBody s_settled) (defScope s_settled) .none kV_settled dc_settled pm_settled an_settled cd_settled ct_settled), sl_settled⟩) (e_settled : PySem.W.codeIn K cd_settled "settled" = true) (k_settled : PySem.W.keepIn K (.ref f_settled) = true)
    (a_gated : PySem.W.nsIn K mainGlobals "gated" = some (some (.ref f_gated))) (l_gated : K.lookup f_gated = some ⟨oc_gated, od_gated, .func (PySem.W.fnOf "gated" "gated" (defArgs s_gated) (defBody s_gated) (defScope s_gated) .none kV_gated dc_gated pm_gated an_gated cd_gated ct_gated), sl_gated⟩) (e_gated : PySem.W.codeIn K cd_gated "gated" = true) (k_gated : PySem.W.keepIn K (.ref f_gated) = true)
    (a_later : PySem.W.nsIn K mainGlobals "later" = some (some (.ref f_later))) (l_later : K.lookup f_later = some ⟨oc_later, od_later, .func (PySem.W.fnOf "later" "later" (defArgs s_later) (defBody s_later) (defScope s_later) .none kV_later dc_later pm_later an_later cd_later ct_later), sl_later⟩) (e_later : PySem.W.codeIn K cd_later "later" = true) (k_later : PySem.W.keepIn K (.ref f_later) = true)
    (a_is_whole : PySem.W.nsIn K mainGlobals "is_whole" = some (some (.ref f_is_whole))) (l_is_whole : K.lookup f_is_whole = some ⟨oc_is_whole, od_is_whole, .func (PySem.W.fnOf "is_whole" "is_whole" (defArgs s_is_whole) (defBody s_is_whole) (defScope s_is_whole) .none kV_is_whole dc_is_whole pm_is_whole an_is_whole cd_is_whole ct_is_whole), sl_is_whole⟩) (e_is_whole : PySem.W.codeIn K cd_is_whole "is_whole" = true) (k_is_whole : PySem.W.keepIn K (.ref f_is_whole) = true)
    (a_are_signs : PySem.W.nsIn K mainGlobals "are_signs" = some (some (.ref f_are_signs))) (l_are_signs : K.lookup f_are_signs = some ⟨oc_are_signs, od_are_signs, .func (PySem.W.fnOf "are_signs" "are_signs" (defArgs s_are_signs) (defBody s_are_signs) (defScope s_are_signs) .none kV_are_signs dc_are_signs pm_are_signs an_are_signs cd_are_signs ct_are_signs), sl_are_signs⟩) (e_are_signs : PySem.W.codeIn K cd_are_signs "are_signs" = true) (k_are_signs : PySem.W.keepIn K (.ref f_are_signs) = true)
    (a_is_every : PySem.W.nsIn K mainGlobals "is_every" = some (some (.ref f_is_every))) (l_is_every : K.lookup f_is_every = some ⟨oc_is_every, od_is_every, .func (PySem.W.fnOf "is_every" "is_every" (defArgs s_is_every) (defBody s_is_every) (defScope s_is_every) .none kV_is_every dc_is_every pm_is_every an_is_every cd_is_every ct_is_every), sl_is_every⟩) (e_is_every : PySem.W.codeIn K cd_is_every "is_every" = true) (k_is_every : PySem.W.keepIn K (.ref f_is_every) = true)
    (a_inner_of : PySem.W.nsIn K mainGlobals "inner_of" = some (some (.ref f_inner_of))) (l_inner_of : K.lookup f_inner_of = some ⟨oc_inner_of, od_inner_of, .func (PySem.W.fnOf "inner_of" "inner_of" (defArgs s_inner_of) (defBody s_inner_of) (defScope s_inner_of) .none kV_inner_of dc_inner_of pm_inner_of an_inner_of cd_inner_of ct_inner_of), sl_inner_of⟩) (e_inner_of : PySem.W.codeIn K cd_inner_of "inner_of" = true) (k_inner_of : PySem.W.keepIn K (.ref f_inner_of) = true)
    (a_is_beat : PySem.W.nsIn K mainGlobals "is_beat" = some (some (.ref f_is_beat))) (l_is_beat : K.lookup f_is_beat = some ⟨oc_is_beat, od_is_beat, .func (PySem.W.fnOf "is_beat" "is_beat" (defArgs s_is_beat) (defBody s_is_beat) (defScope s_is_beat) .none kV_is_beat dc_is_beat pm_is_beat an_is_beat cd_is_beat ct_is_beat), sl_is_beat⟩) (e_is_beat : PySem.W.codeIn K cd_is_beat "is_beat" = true) (k_is_beat : PySem.W.keepIn K (.ref f_is_beat) = true)
    (a_need_beat : PySem.W.nsIn K mainGlobals "need_beat" = some (some (.ref f_need_beat))) (l_need_beat : K.lookup f_need_beat = some ⟨oc_need_beat, od_need_beat, .func (PySem.W.fnOf "need_beat" "need_beat" (defArgs s_need_beat) (defBody s_need_beat) (defScope s_need_beat) .none kV_need_beat dc_need_beat pm_need_beat an_need_beat cd_need_beat ct_need_beat), sl_need_beat⟩) (e_need_beat : PySem.W.codeIn K cd_need_beat "need_beat" = true) (k_need_beat : PySem.W.keepIn K (.ref f_need_beat) = true)
    (a_form : PySem.W.nsIn K mainGlobals "form" = some (some (.ref f_form))) (l_form : K.lookup f_form = some ⟨oc_form, od_form, .func (PySem.W.fnOf "form" "form" (defArgs s_form) (defBody s_form) (defScope s_form) .none kV_form dc_form pm_form an_form cd_form ct_form), sl_form⟩) (e_form : PySem.W.codeIn K cd_form "form" = true) (k_form : PySem.W.keepIn K (.ref f_form) = true)
    (a_reduced : PySem.W.nsIn K mainGlobals "reduced" = some (some (.ref f_reduced))) (l_reduced : K.lookup f_reduced = some ⟨oc_reduced, od_reduced, .func (PySem.W.fnOf "reduced" "reduced" (defArgs s_reduced) (defBody s_reduced) (defScope s_reduced) .none kV_reduced dc_reduced pm_reduced an_reduced cd_reduced ct_reduced), sl_reduced⟩) (e_reduced : PySem.W.codeIn K cd_reduced "reduced" = true) (k_reduced : PySem.W.keepIn K (.ref f_reduced) = true)
    (a_rate_of : PySem.W.nsIn K mainGlobals "rate_of" = some (some (.ref f_rate_of))) (l_rate_of : K.lookup f_rate_of = some ⟨oc_rate_of, od_rate_of, .func (PySem.W.fnOf "rate_of" "rate_of" (defArgs s_rate_of) (defBody s_rate_of) (defScope s_rate_of) .none kV_rate_of dc_rate_of pm_rate_of an_rate_of cd_rate_of ct_rate_of), sl_rate_of⟩) (e_rate_of : PySem.W.codeIn K cd_rate_of "rate_of" = true) (k_rate_of : PySem.W.keepIn K (.ref f_rate_of) = true)
    (a__law_mix : PySem.W.nsIn K mainGlobals "_law_mix" = some (some (.ref f__law_mix))) (l__law_mix : K.lookup f__law_mix = some ⟨oc__law_mix, od__law_mix, .func (PySem.W.fnOf "_law_mix" "_law_mix" (defArgs s__law_mix) (defBody s__law_mix) (defScope s__law_mix) .none kV__law_mix dc__law_mix pm__law_mix an__law_mix cd__law_mix ct__law_mix), sl__law_mix⟩) (e__law_mix : PySem.W.codeIn K cd__law_mix "_law_mix" = true) (k__law_mix : PySem.W.keepIn K (.ref f__law_mix) = true)
    (a__law_next : PySem.W.nsIn K mainGlobals "_law_next" = some (some (.ref f__law_next))) (l__law_next : K.lookup f__law_next = some ⟨oc__law_next, od__law_next, .func (PySem.W.fnOf "_law_next" "_law_next" (defArgs s__law_next) (defBody s__law_next) (defScope s__law_next) .none kV__law_next dc__law_next pm__law_next an__law_next cd__law_next ct__law_next), sl__law_next⟩) (e__law_next : PySem.W.codeIn K cd__law_next "_law_next" = true) (k__law_next : PySem.W.keepIn K (.ref f__law_next) = true)
    (a_signs : PySem.W.nsIn K mainGlobals "signs" = some (some (.ref f_signs))) (l_signs : K.lookup f_signs = some ⟨oc_signs, od_signs, .func (PySem.W.fnOf "signs" "signs" (defArgs s_signs) (defBody s_signs) (defScope s_signs) .none kV_signs dc_signs pm_signs an_signs cd_signs ct_signs), sl_signs⟩) (e_signs : PySem.W.codeIn K cd_signs "signs" = true) (k_signs : PySem.W.keepIn K (.ref f_signs) = true)
    (a_need_endless : PySem.W.nsIn K mainGlobals "need_endless" = some (some (.ref f_need_endless))) (l_need_endless : K.lookup f_need_endless = some ⟨oc_need_endless, od_need_endless, .func (PySem.W.fnOf "need_endless" "need_endless" (defArgs s_need_endless) (defBody s_need_endless) (defScope s_need_endless) .none kV_need_endless dc_need_endless pm_need_endless an_need_endless cd_need_endless ct_need_endless), sl_need_endless⟩) (e_need_endless : PySem.W.codeIn K cd_need_endless "need_endless" = true) (k_need_endless : PySem.W.keepIn K (.ref f_need_endless) = true)
    (a_endless : PySem.W.nsIn K mainGlobals "endless" = some (some (.ref f_endless))) (l_endless : K.lookup f_endless = some ⟨oc_endless, od_endless, .func (PySem.W.fnOf "endless" "endless" (defArgs s_endless) (defBody s_endless) (defScope s_endless) .none kV_endless dc_endless pm_endless an_endless cd_endless ct_endless), sl_endless⟩) (e_endless : PySem.W.codeIn K cd_endless "endless" = true) (k_endless : PySem.W.keepIn K (.ref f_endless) = true)
    (a_far_of : PySem.W.nsIn K mainGlobals "far_of" = some (some (.ref f_far_of))) (l_far_of : K.lookup f_far_of = some ⟨oc_far_of, od_far_of, .func (PySem.W.fnOf "far_of" "far_of" (defArgs s_far_of) (defBody s_far_of) (defScope s_far_of) .none kV_far_of dc_far_of pm_far_of an_far_of cd_far_of ct_far_of), sl_far_of⟩) (e_far_of : PySem.W.codeIn K cd_far_of "far_of" = true) (k_far_of : PySem.W.keepIn K (.ref f_far_of) = true)
    (a_far : PySem.W.nsIn K mainGlobals "far" = some (some (.ref f_far))) (l_far : K.lookup f_far = some ⟨oc_far, od_far, .func (PySem.W.fnOf "far" "far" (defArgs s_far) (defBody s_far) (defScope s_far) .none kV_far dc_far pm_far an_far cd_far ct_far), sl_far⟩) (e_far : PySem.W.codeIn K cd_far "far" = true) (k_far : PySem.W.keepIn K (.ref f_far) = true)
    (a_is_even : PySem.W.nsIn K mainGlobals "is_even" = some (some (.ref f_is_even))) (l_is_even : K.lookup f_is_even = some ⟨oc_is_even, od_is_even, .func (PySem.W.fnOf "is_even" "is_even" (defArgs s_is_even) (defBody s_is_even) (defScope s_is_even) .none kV_is_even dc_is_even pm_is_even an_is_even cd_is_even ct_is_even), sl_is_even⟩) (e_is_even : PySem.W.codeIn K cd_is_even "is_even" = true) (k_is_even : PySem.W.keepIn K (.ref f_is_even) = true)
    (a__law_common : PySem.W.nsIn K mainGlobals "_law_common" = some (some (.ref f__law_common))) (l__law_common : K.lookup f__law_common = some ⟨oc__law_common, od__law_common, .func (PySem.W.fnOf "_law_common" "_law_common" (defArgs s__law_common) (defBody s__law_common) (defScope s__law_common) .none kV__law_common dc__law_common pm__law_common an__law_common cd__law_common ct__law_common), sl__law_common⟩) (e__law_common : PySem.W.codeIn K cd__law_common "_law_common" = true) (k__law_common : PySem.W.keepIn K (.ref f__law_common) = true)
    (a__law_reduced : PySem.W.nsIn K mainGlobals "_law_reduced" = some (some (.ref f__law_reduced))) (l__law_reduced : K.lookup f__law_reduced = some ⟨oc__law_reduced, od__law_reduced, .func (PySem.W.fnOf "_law_reduced" "_law_reduced" (defArgs s__law_reduced) (defBody s__law_reduced) (defScope s__law_reduced) .none kV__law_reduced dc__law_reduced pm__law_reduced an__law_reduced cd__law_reduced ct__law_reduced), sl__law_reduced⟩) (e__law_reduced : PySem.W.codeIn K cd__law_reduced "_law_reduced" = true) (k__law_reduced : PySem.W.keepIn K (.ref f__law_reduced) = true)
    (a__law_all : PySem.W.nsIn K mainGlobals "_law_all" = some (some (.ref f__law_all))) (l__law_all : K.lookup f__law_all = some ⟨oc__law_all, od__law_all, .func (PySem.W.fnOf "_law_all" "_law_all" (defArgs s__law_all) (defBody s__law_all) (defScope s__law_all) .none kV__law_all dc__law_all pm__law_all an__law_all cd__law_all ct__law_all), sl__law_all⟩) (e__law_all : PySem.W.codeIn K cd__law_all "_law_all" = true) (k__law_all : PySem.W.keepIn K (.ref f__law_all) = true)
    (a__law_alike : PySem.W.nsIn K mainGlobals "_law_alike" = some (some (.ref f__law_alike))) (l__law_alike : K.lookup f__law_alike = some ⟨oc__law_alike, od__law_alike, .func (PySem.W.fnOf "_law_alike" "_law_alike" (defArgs s__law_alike) (defBody s__law_alike) (defScope s__law_alike) .none kV__law_alike dc__law_alike pm__law_alike an__law_alike cd__law_alike ct__law_alike), sl__law_alike⟩) (e__law_alike : PySem.W.codeIn K cd__law_alike "_law_alike" = true) (k__law_alike : PySem.W.keepIn K (.ref f__law_alike) = true)
    (a_law : PySem.W.nsIn K mainGlobals "law" = some (some (.ref f_law))) (l_law : K.lookup f_law = some ⟨oc_law, od_law, .func (PySem.W.fnOf "law" "law" (defArgs s_law) (defBody s_law) (defScope s_law) .none kV_law dc_law pm_law an_law cd_law ct_law), sl_law⟩) (e_law : PySem.W.codeIn K cd_law "law" = true) (k_law : PySem.W.keepIn K (.ref f_law) = true)
    {t_MOST_MOMENTS : Tok} (g_MOST_MOMENTS : PySem.W.nsIn K mainGlobals "MOST_MOMENTS" = some (some (.int 5040 t_MOST_MOMENTS)))
    {r_SIGNS : Addr} {od_SIGNS : Option Addr} {n_SIGNS : Nat} {sl_SIGNS : Array (Option Value)} {t0_SIGNS t1_SIGNS : Tok} (g_SIGNS : PySem.W.nsIn K mainGlobals "SIGNS" = some (some (.ref r_SIGNS))) (q_SIGNS : K.lookup r_SIGNS = some ⟨.type "tuple", od_SIGNS, .seq #[.str "0" t0_SIGNS, .str "1" t1_SIGNS] n_SIGNS, sl_SIGNS⟩)
    {t_MOST_DIVIDED : Tok} (g_MOST_DIVIDED : PySem.W.nsIn K mainGlobals "MOST_DIVIDED" = some (some (.int 12 t_MOST_DIVIDED)))
    {r_OF_TWO : Addr} {od_OF_TWO : Option Addr} {n_OF_TWO : Nat} {sl_OF_TWO : Array (Option Value)} {t0_OF_TWO t1_OF_TWO t2_OF_TWO : Tok} (g_OF_TWO : PySem.W.nsIn K mainGlobals "OF_TWO" = some (some (.ref r_OF_TWO))) (q_OF_TWO : K.lookup r_OF_TWO = some ⟨.type "tuple", od_OF_TWO, .seq #[.str "either" t0_OF_TWO, .str "both" t1_OF_TWO, .str "but" t2_OF_TWO] n_OF_TWO, sl_OF_TWO⟩)
    {t_MOST_LATER : Tok} (g_MOST_LATER : PySem.W.nsIn K mainGlobals "MOST_LATER" = some (some (.int 99 t_MOST_LATER)))
    {t_MOST_LED : Tok} (g_MOST_LED : PySem.W.nsIn K mainGlobals "MOST_LED" = some (some (.int 9999 t_MOST_LED)))
    {t_MOST_TUPLES : Tok} (g_MOST_TUPLES : PySem.W.nsIn K mainGlobals "MOST_TUPLES" = some (some (.int 30 t_MOST_TUPLES)))
    {C_TooLong : Addr} (xg_TooLong : PySem.W.nsIn K mainGlobals "TooLong" = some (some (.ref C_TooLong))) (xq_TooLong : PySem.W.excIn K C_TooLong [.type "ValueError", .type "Exception", .type "BaseException", .type "object"] "ValueError.__new__" = true) (xk_TooLong : PySem.W.keepIn K (.ref C_TooLong) = true) (xs_TooLong : PySem.W.subIn K (.ref C_TooLong) (.type "BaseException") = some true) (xt_TooLong : PySem.W.typeIn K (.ref C_TooLong) = some (.type "type"))
    {C_NoBeat : Addr} (xg_NoBeat : PySem.W.nsIn K mainGlobals "NoBeat" = some (some (.ref C_NoBeat))) (xq_NoBeat : PySem.W.excIn K C_NoBeat [.type "ValueError", .type "Exception", .type "BaseException", .type "object"] "ValueError.__new__" = true) (xk_NoBeat : PySem.W.keepIn K (.ref C_NoBeat) = true) (xs_NoBeat : PySem.W.subIn K (.ref C_NoBeat) (.type "BaseException") = some true) (xt_NoBeat : PySem.W.typeIn K (.ref C_NoBeat) = some (.type "type"))
    {C_Ends : Addr} (xg_Ends : PySem.W.nsIn K mainGlobals "Ends" = some (some (.ref C_Ends))) (xq_Ends : PySem.W.excIn K C_Ends [.type "ValueError", .type "Exception", .type "BaseException", .type "object"] "ValueError.__new__" = true) (xk_Ends : PySem.W.keepIn K (.ref C_Ends) = true) (xs_Ends : PySem.W.subIn K (.ref C_Ends) (.type "BaseException") = some true) (xt_Ends : PySem.W.typeIn K (.ref C_Ends) = some (.type "type"))
    (z_len : PySem.W.nsIn K mainGlobals "len" = some none)
    (z_range : PySem.W.nsIn K mainGlobals "range" = some none)
    (z_list : PySem.W.nsIn K mainGlobals "list" = some none)
    (z_sum : PySem.W.nsIn K mainGlobals "sum" = some none)
    (z_zip : PySem.W.nsIn K mainGlobals "zip" = some none)
    (z_max : PySem.W.nsIn K mainGlobals "max" = some none)
    (z_min : PySem.W.nsIn K mainGlobals "min" = some none)
    (z_sorted : PySem.W.nsIn K mainGlobals "sorted" = some none)
    (z_set : PySem.W.nsIn K mainGlobals "set" = some none)
    (z_dict : PySem.W.nsIn K mainGlobals "dict" = some none)
    (z_enumerate : PySem.W.nsIn K mainGlobals "enumerate" = some none)
    (z_divmod : PySem.W.nsIn K mainGlobals "divmod" = some none)
    (z_isinstance : PySem.W.nsIn K mainGlobals "isinstance" = some none)
    (z_int : PySem.W.nsIn K mainGlobals "int" = some none)
    (z_str : PySem.W.nsIn K mainGlobals "str" = some none)
    (z_bool : PySem.W.nsIn K mainGlobals "bool" = some none)
    (z_tuple : PySem.W.nsIn K mainGlobals "tuple" = some none)
    : ∃ fd : FuncData, (∀ (s : Shared) (v : Value), BindsTo s fd ⟨[v], []⟩ [("_law_script", v)]) ∧ ∀ base : Heap, K.In base → base.Ns mainGlobals mg → FnOk l.prog w K mg base CX0 100 fa fd ["_law_script"] (spLaw K) := by
  have e := hfa.symm.trans (PySem.W.mg_of X G a_law)
  cases e
  have m_of_two := PySem.W.mg_of X G a_of_two
  have F_of_two := fun_mk (st := s_of_two) l_of_two e_of_two k_of_two
  have b_of_two := F_of_two.binds (ps := ["word", "one", "other"]) fun _ _ _ _ _ _ us hl => match us, hl with | [_, _, _], _ => rfl
  have m_led_form := PySem.W.mg_of X G a_led_form
  have F_led_form := fun_mk (st := s_led_form) l_led_form e_led_form k_led_form
  have b_led_form := F_led_form.binds (ps := ["one", "many", "other", "first"]) fun _ _ _ _ _ _ us hl => match us, hl with | [_, _, _, _], _ => rfl
  have m_form_of := PySem.W.mg_of X G a_form_of
  have F_form_of := fun_mk (st := s_form_of) l_form_of e_form_of k_form_of
  have b_form_of := F_form_of.binds (ps := ["beat"]) fun _ _ _ _ _ _ us hl => match us, hl with | [_], _ => rfl
  have m_made_of := PySem.W.mg_of X G a_made_of
  have F_made_of := fun_mk (st := s_made_of) l_made_of e_made_of k_made_of
  have b_made_of := F_made_of.binds (ps := ["beat"]) fun _ _ _ _ _ _ us hl => match us, hl with | [_], _ => rfl
  have m_divisor := PySem.W.mg_of X G a_divisor
  have F_divisor := fun_mk (st := s_divisor) l_divisor e_divisor k_divisor
  have b_divisor := F_divisor.binds (ps := ["one", "other"]) fun _ _ _ _ _ _ us hl => match us, hl with | [_, _], _ => rfl
  have m_multiple := PySem.W.mg_of X G a_multiple
  have F_multiple := fun_mk (st := s_multiple) l_multiple e_multiple k_multiple
  have b_multiple := F_multiple.binds (ps := ["one", "other"]) fun _ _ _ _ _ _ us hl => match us, hl with | [_, _], _ => rfl
  have m_need_short := PySem.W.mg_of X G a_need_short
  have F_need_short := fun_mk (st := s_need_short) l_need_short e_need_short k_need_short
  have b_need_short := F_need_short.binds (ps := ["many"]) fun _ _ _ _ _ _ us hl => match us, hl with | [_], _ => rfl
  have m_gaps_round := PySem.W.mg_of X G a_gaps_round
  have F_gaps_round := fun_mk (st := s_gaps_round) l_gaps_round e_gaps_round k_gaps_round
  have b_gaps_round := F_gaps_round.binds (ps := ["ticks", "length"]) fun _ _ _ _ _ _ us hl => match us, hl with | [_, _], _ => rfl
  have m_tick_at := PySem.W.mg_of X G a_tick_at
  have F_tick_at := fun_mk (st := s_tick_at) l_tick_at e_tick_at k_tick_at
  have b_tick_at := F_tick_at.binds (ps := ["form_told", "number"]) fun _ _ _ _ _ _ us hl => match us, hl with | [_, _], _ => rfl
  have m_settled := PySem.W.mg_of X G a_settled
  have F_settled := fun_mk (st := s_settled) l_settled e_settled k_settled
  have b_settled := F_settled.binds (ps := ["front", "ticks", "length"]) fun _ _ _ _ _ _ us hl => match us, hl with | [_, _, _], _ => rfl
  have m_gated := PySem.W.mg_of X G a_gated
  have F_gated := fun_mk (st := s_gated) l_gated e_gated k_gated
  have b_gated := F_gated.binds (ps := ["inner", "signs"]) fun _ _ _ _ _ _ us hl => match us, hl with | [_, _], _ => rfl
  have m_later := PySem.W.mg_of X G a_later
  have F_later := fun_mk (st := s_later) l_later e_later k_later
  have b_later := F_later.binds (ps := ["inner", "more"]) fun _ _ _ _ _ _ us hl => match us, hl with | [_, _], _ => rfl
  have m_is_whole := PySem.W.mg_of X G a_is_whole
  have F_is_whole := fun_mk (st := s_is_whole) l_is_whole e_is_whole k_is_whole
  have b_is_whole := F_is_whole.binds (ps := ["thing", "least", "most"]) fun _ _ _ _ _ _ us hl => match us, hl with | [_, _, _], _ => rfl
  have m_are_signs := PySem.W.mg_of X G a_are_signs
  have F_are_signs := fun_mk (st := s_are_signs) l_are_signs e_are_signs k_are_signs
  have b_are_signs := F_are_signs.binds (ps := ["thing"]) fun _ _ _ _ _ _ us hl => match us, hl with | [_], _ => rfl
  have m_is_every := PySem.W.mg_of X G a_is_every
  have F_is_every := fun_mk (st := s_is_every) l_is_every e_is_every k_is_every
  have b_is_every := F_is_every.binds (ps := ["beat"]) fun _ _ _ _ _ _ us hl => match us, hl with | [_], _ => rfl
  have m_inner_of := PySem.W.mg_of X G a_inner_of
  have F_inner_of := fun_mk (st := s_inner_of) l_inner_of e_inner_of k_inner_of
  have b_inner_of := F_inner_of.binds (ps := ["beat"]) fun _ _ _ _ _ _ us hl => match us, hl with | [_], _ => rfl
  have m_is_beat := PySem.W.mg_of X G a_is_beat
  have F_is_beat := fun_mk (st := s_is_beat) l_is_beat e_is_beat k_is_beat
  have b_is_beat := F_is_beat.binds (ps := ["beat"]) fun _ _ _ _ _ _ us hl => match us, hl with | [_], _ => rfl
  have m_need_beat := PySem.W.mg_of X G a_need_beat
  have F_need_beat := fun_mk (st := s_need_beat) l_need_beat e_need_beat k_need_beat
  have b_need_beat := F_need_beat.binds (ps := ["beat"]) fun _ _ _ _ _ _ us hl => match us, hl with | [_], _ => rfl
  have m_form := PySem.W.mg_of X G a_form
  have F_form := fun_mk (st := s_form) l_form e_form k_form
  have b_form := F_form.binds (ps := ["beat"]) fun _ _ _ _ _ _ us hl => match us, hl with | [_], _ => rfl
  have m_reduced := PySem.W.mg_of X G a_reduced
  have F_reduced := fun_mk (st := s_reduced) l_reduced e_reduced k_reduced
  have b_reduced := F_reduced.binds (ps := ["top", "bottom"]) fun _ _ _ _ _ _ us hl => match us, hl with | [_, _], _ => rfl
  have m_rate_of := PySem.W.mg_of X G a_rate_of
  have F_rate_of := fun_mk (st := s_rate_of) l_rate_of e_rate_of k_rate_of
  have b_rate_of := F_rate_of.binds (ps := ["told"]) fun _ _ _ _ _ _ us hl => match us, hl with | [_], _ => rfl
  have m__law_mix := PySem.W.mg_of X G a__law_mix
  have F__law_mix := fun_mk (st := s__law_mix) l__law_mix e__law_mix k__law_mix
  have b__law_mix := F__law_mix.binds (ps := ["_law_script", "_law_seed"]) fun _ _ _ _ _ _ us hl => match us, hl with | [_, _], _ => rfl
  have m__law_next := PySem.W.mg_of X G a__law_next
  have F__law_next := fun_mk (st := s__law_next) l__law_next e__law_next k__law_next
  have b__law_next := F__law_next.binds (ps := ["_law_h", "_law_many"]) fun _ _ _ _ _ _ us hl => match us, hl with | [_, _], _ => rfl
  have m_signs := PySem.W.mg_of X G a_signs
  have F_signs := fun_mk (st := s_signs) l_signs e_signs k_signs
  have b_signs := F_signs.binds (ps := ["p", "q"]) fun _ _ _ _ _ _ us hl => match us, hl with | [_, _], _ => rfl
  have m_need_endless := PySem.W.mg_of X G a_need_endless
  have F_need_endless := fun_mk (st := s_need_endless) l_need_endless e_need_endless k_need_endless
  have b_need_endless := F_need_endless.binds (ps := ["told"]) fun _ _ _ _ _ _ us hl => match us, hl with | [_], _ => rfl
  have m_endless := PySem.W.mg_of X G a_endless
  have F_endless := fun_mk (st := s_endless) l_endless e_endless k_endless
  have b_endless := F_endless.binds (ps := ["beat"]) fun _ _ _ _ _ _ us hl => match us, hl with | [_], _ => rfl
  have m_far_of := PySem.W.mg_of X G a_far_of
  have F_far_of := fun_mk (st := s_far_of) l_far_of e_far_of k_far_of
  have b_far_of := F_far_of.binds (ps := ["told"]) fun _ _ _ _ _ _ us hl => match us, hl with | [_], _ => rfl
  have m_far := PySem.W.mg_of X G a_far
  have F_far := fun_mk (st := s_far) l_far e_far k_far
  have b_far := F_far.binds (ps := ["beat"]) fun _ _ _ _ _ _ us hl => match us, hl with | [_], _ => rfl
  have m_is_even := PySem.W.mg_of X G a_is_even
  have F_is_even := fun_mk (st := s_is_even) l_is_even e_is_even k_is_even
  have b_is_even := F_is_even.binds (ps := ["beat"]) fun _ _ _ _ _ _ us hl => match us, hl with | [_], _ => rfl
  have m__law_common := PySem.W.mg_of X G a__law_common
  have F__law_common := fun_mk (st := s__law_common) l__law_common e__law_common k__law_common
  have b__law_common := F__law_common.binds (ps := ["_law_one", "_law_other"]) fun _ _ _ _ _ _ us hl => match us, hl with | [_, _], _ => rfl
  have m__law_reduced := PySem.W.mg_of X G a__law_reduced
  have F__law_reduced := fun_mk (st := s__law_reduced) l__law_reduced e__law_reduced k__law_reduced
  have b__law_reduced := F__law_reduced.binds (ps := ["_law_top", "_law_bottom"]) fun _ _ _ _ _ _ us hl => match us, hl with | [_, _], _ => rfl
  have m__law_all := PySem.W.mg_of X G a__law_all
  have F__law_all := fun_mk (st := s__law_all) l__law_all e__law_all k__law_all
  have b__law_all := F__law_all.binds (ps := ["_law_count", "_law_ones"]) fun _ _ _ _ _ _ us hl => match us, hl with | [_, _], _ => rfl
  have m__law_alike := PySem.W.mg_of X G a__law_alike
  have F__law_alike := fun_mk (st := s__law_alike) l__law_alike e__law_alike k__law_alike
  have b__law_alike := F__law_alike.binds (ps := ["_law_found", "_law_due"]) fun _ _ _ _ _ _ us hl => match us, hl with | [_, _], _ => rfl
  have m_law := PySem.W.mg_of X G a_law
  have F_law := fun_mk (st := s_law) l_law e_law k_law
  have b_law := F_law.binds (ps := ["_law_script"]) fun _ _ _ _ _ _ us hl => match us, hl with | [_], _ => rfl
  have B : Blt mg := ⟨PySem.W.mg_none_of X G z_len, PySem.W.mg_none_of X G z_range, PySem.W.mg_none_of X G z_list, PySem.W.mg_none_of X G z_sum, PySem.W.mg_none_of X G z_zip, PySem.W.mg_none_of X G z_max, PySem.W.mg_none_of X G z_min, PySem.W.mg_none_of X G z_sorted, PySem.W.mg_none_of X G z_set, PySem.W.mg_none_of X G z_dict, PySem.W.mg_none_of X G z_enumerate, PySem.W.mg_none_of X G z_divmod, PySem.W.mg_none_of X G z_isinstance, PySem.W.mg_none_of X G z_int, PySem.W.mg_none_of X G z_str, PySem.W.mg_none_of X G z_bool, PySem.W.mg_none_of X G z_tuple⟩
  have g_MOST_MOMENTS : ∃ u, mg "MOST_MOMENTS" = some u ∧ RelV (.int 5040) u := ⟨_, PySem.W.mg_of X G g_MOST_MOMENTS, _, rfl⟩
  have g_SIGNS : ∃ u, mg "SIGNS" = some u ∧ RelV (.ref r_SIGNS) u := ⟨_, PySem.W.mg_of X G g_SIGNS, rfl⟩
  have q_SIGNS : ∀ H : Hp, SqT K H r_SIGNS [.str "0", .str "1"] := fun H => .inr ⟨_, _, _, q_SIGNS, rfl, rfl, (by show 2 ≤ sizeLine; decide), .cons ⟨_, rfl⟩ (.cons ⟨_, rfl⟩ (.nil))⟩
  have g_MOST_DIVIDED : ∃ u, mg "MOST_DIVIDED" = some u ∧ RelV (.int 12) u := ⟨_, PySem.W.mg_of X G g_MOST_DIVIDED, _, rfl⟩
  have g_OF_TWO : ∃ u, mg "OF_TWO" = some u ∧ RelV (.ref r_OF_TWO) u := ⟨_, PySem.W.mg_of X G g_OF_TWO, rfl⟩
  have q_OF_TWO : ∀ H : Hp, SqT K H r_OF_TWO [.str "either", .str "both", .str "but"] := fun H => .inr ⟨_, _, _, q_OF_TWO, rfl, rfl, (by show 3 ≤ sizeLine; decide), .cons ⟨_, rfl⟩ (.cons ⟨_, rfl⟩ (.cons ⟨_, rfl⟩ (.nil)))⟩
  have g_MOST_LATER : ∃ u, mg "MOST_LATER" = some u ∧ RelV (.int 99) u := ⟨_, PySem.W.mg_of X G g_MOST_LATER, _, rfl⟩
  have g_MOST_LED : ∃ u, mg "MOST_LED" = some u ∧ RelV (.int 9999) u := ⟨_, PySem.W.mg_of X G g_MOST_LED, _, rfl⟩
  have g_MOST_TUPLES : ∃ u, mg "MOST_TUPLES" = some u ∧ RelV (.int 30) u := ⟨_, PySem.W.mg_of X G g_MOST_TUPLES, _, rfl⟩
  have T_TooLong : ExC K mg "TooLong" C_TooLong := ⟨PySem.W.mg_of X G xg_TooLong, xq_TooLong, xk_TooLong, xs_TooLong, xt_TooLong⟩
  have T_NoBeat : ExC K mg "NoBeat" C_NoBeat := ⟨PySem.W.mg_of X G xg_NoBeat, xq_NoBeat, xk_NoBeat, xs_NoBeat, xt_NoBeat⟩
  have T_Ends : ExC K mg "Ends" C_Ends := ⟨PySem.W.mg_of X G xg_Ends, xq_Ends, xk_Ends, xs_Ends, xt_Ends⟩
  refine ⟨PySem.W.fnOf "law" "law" (defArgs s_law) (defBody s_law) (defScope s_law) .none kV_law dc_law pm_law an_law cd_law ct_law, fun s v => .of_eq rfl, fun base _ _ => ?_⟩
  have c_divisor := Dn.of0 (P := l.prog) (w := w) (base := base) (ok_divisor F_divisor) m_divisor k_divisor b_divisor
  have c_multiple := Dn.of0 (P := l.prog) (w := w) (base := base) (ok_multiple F_multiple c_divisor) m_multiple k_multiple b_multiple
  have c_need_short := Dn.of (P := l.prog) (w := w) (base := base) (ok_need_short F_need_short g_MOST_MOMENTS T_TooLong) m_need_short k_need_short b_need_short
  have c_gaps_round := Dn.of0 (P := l.prog) (w := w) (base := base) (ok_gaps_round F_gaps_round B) m_gaps_round k_gaps_round b_gaps_round
  have c_tick_at := Dn.of0 (P := l.prog) (w := w) (base := base) (ok_tick_at F_tick_at B) m_tick_at k_tick_at b_tick_at
  have c_settled := Dn.of0 (P := l.prog) (w := w) (base := base) (ok_settled F_settled B c_gaps_round) m_settled k_settled b_settled
  have c_gated := Dn.of (P := l.prog) (w := w) (base := base) (ok_gated F_gated B c_multiple c_need_short c_tick_at c_settled) m_gated k_gated b_gated
  have c_later := Dn.of0 (P := l.prog) (w := w) (base := base) (ok_later F_later B) m_later k_later b_later
  have c_is_whole := Dn.of0 (P := l.prog) (w := w) (base := base) (ok_is_whole F_is_whole B) m_is_whole k_is_whole b_is_whole
  have c_are_signs := Dn.of0 (P := l.prog) (w := w) (base := base) (ok_are_signs F_are_signs B g_SIGNS q_SIGNS g_MOST_DIVIDED) m_are_signs k_are_signs b_are_signs
  have c_is_every := Dn.of0 (P := l.prog) (w := w) (base := base) (ok_is_every F_is_every g_MOST_DIVIDED c_is_whole) m_is_every k_is_every b_is_every
  have c_inner_of := Dn.of0 (P := l.prog) (w := w) (base := base) (ok_inner_of F_inner_of B g_OF_TWO q_OF_TWO g_MOST_LATER g_MOST_LED c_is_whole c_are_signs c_is_every) m_inner_of k_inner_of b_inner_of
  have c_is_beat := Dn.of0 (P := l.prog) (w := w) (base := base) (ok_is_beat F_is_beat B g_MOST_TUPLES c_inner_of) m_is_beat k_is_beat b_is_beat
  have c_need_beat := Dn.of (P := l.prog) (w := w) (base := base) (ok_need_beat F_need_beat T_NoBeat c_is_beat) m_need_beat k_need_beat b_need_beat
  have c_of_two : Dn l.prog w K mg base 9 "of_two" (spTwo False C_TooLong) := Dn.of (FnOk.imp never_ok fun _ _ _ _ h => by obtain ⟨_, _, _, _, _, _, z, _⟩ := h; exact z) m_of_two k_of_two b_of_two
  have c_led_form : Dn l.prog w K mg base 9 "led_form" (spLed False) := Dn.of (FnOk.imp never_ok fun _ _ _ _ h => by obtain ⟨_, _, _, _, _, _, _, z, _⟩ := h; exact z) m_led_form k_led_form b_led_form
  have c_form_of := ok_forms ToldOf.never F_form_of F_made_of B m_form_of k_form_of b_form_of m_made_of k_made_of b_made_of c_need_short c_gated c_later c_of_two c_led_form 30
  have c_form := Dn.of (P := l.prog) (w := w) (base := base) (ok_form F_form c_need_beat c_form_of) m_form k_form b_form
  have c_reduced := Dn.of0 (P := l.prog) (w := w) (base := base) (ok_reduced F_reduced c_divisor) m_reduced k_reduced b_reduced
  have c_rate_of := Dn.of0 (P := l.prog) (w := w) (base := base) (ok_rate_of F_rate_of B c_reduced) m_rate_of k_rate_of b_rate_of
  have c__law_mix := Dn.of0 (P := l.prog) (w := w) (base := base) (mix_view (ok_mix0 F__law_mix B)) m__law_mix k__law_mix b__law_mix
  have c__law_next := Dn.of0 (P := l.prog) (w := w) (base := base) (next_view (ok_next0 F__law_next B)) m__law_next k__law_next b__law_next
  have c_signs := Dn.of0 (P := l.prog) (w := w) (base := base) (ok_signs F_signs B) m_signs k_signs b_signs
  have c_need_endless := Dn.of (P := l.prog) (w := w) (base := base) (ok_need_endless F_need_endless T_Ends) m_need_endless k_need_endless b_need_endless
  have c_endless := Dn.of (P := l.prog) (w := w) (base := base) (ok_endless F_endless c_form c_need_endless) m_endless k_endless b_endless
  have c_far_of := Dn.of0 (P := l.prog) (w := w) (base := base) (ok_far_of F_far_of B c_reduced) m_far_of k_far_of b_far_of
  have c_far := Dn.of (P := l.prog) (w := w) (base := base) (ok_far F_far c_endless c_far_of) m_far k_far b_far
  have c_is_even := Dn.of (P := l.prog) (w := w) (base := base) (ok_is_even F_is_even c_endless c_far_of c_rate_of) m_is_even k_is_even b_is_even
  have c__law_common := Dn.of0 (P := l.prog) (w := w) (base := base) (ok__law_common F__law_common) m__law_common k__law_common b__law_common
  have c__law_reduced := Dn.of0 (P := l.prog) (w := w) (base := base) (ok__law_reduced F__law_reduced c__law_common) m__law_reduced k__law_reduced b__law_reduced
  have c__law_all := Dn.of0 (P := l.prog) (w := w) (base := base) (ok__law_all F__law_all B) m__law_all k__law_all b__law_all
  have c__law_alike := Dn.of0 (P := l.prog) (w := w) (base := base) (ok_alike F__law_alike B m__law_alike k__law_alike b__law_alike 40) m__law_alike k__law_alike b__law_alike
  exact ok_law F_law B c__law_mix c__law_next c_signs c__law_all c__law_alike c__law_reduced c_far c_is_even
end TD
open PySem PySem.W PyProof.Rows
set_option maxRecDepth 100000 in
set_option maxHeartbeats 0 in
theorem PySem.Challenge.cw_tickdivide_k11_whole_none_is_nearer_holds : PySem.Challenge.rw_tickdivide_k11_whole_none_is_nearer.Holds := by
  w_on; o_law; k_head; (case hw => w_witness2)
  k_fill
  refine L2.walk_of (l := PySem.Challenge.rw_tickdivide_k11_whole_none_is_nearer) (n := 63) (k := 100) (x := "_law_script") (CX := fun _ => L2.CX0) (sp := fun w => TD.spLaw _) rfl (by decide) rfl ⟨rfl, by decide, by decide⟩ (fun w h Y => PySem.W.kIn_of Y) ?F (fun _ _ a ns hl _ hS => ⟨a, ns, rfl, hS, hl, fun _ => rfl⟩) (fun _ _ _ _ _ h => h)
  case F =>
    intro w mg fa h KX G hmg
    refine' TD.all_mk KX G hmg ?a_of_two ?l_of_two ?e_of_two ?k_of_two ?a_led_form ?l_led_form ?e_led_form ?k_led_form ?a_form_of ?l_form_of ?e_form_of ?k_form_of ?a_made_of ?l_made_of ?e_made_of ?k_made_of ?a_divisor ?l_divisor ?e_divisor ?k_divisor ?a_multiple ?l_multiple ?e_multiple ?k_multiple ?a_need_short ?l_need_short ?e_need_short ?k_need_short ?a_gaps_round ?l_gaps_round ?e_gaps_round ?k_gaps_round ?a_tick_at ?l_tick_at ?e_tick_at ?k_tick_at ?a_settled ?l_settled ?e_settled ?k_settled ?a_gated ?l_gated ?e_gated ?k_gated ?a_later ?l_later ?e_later ?k_later ?a_is_whole ?l_is_whole ?e_is_whole ?k_is_whole ?a_are_signs ?l_are_signs ?e_are_signs ?k_are_signs ?a_is_every ?l_is_every ?e_is_every ?k_is_every ?a_inner_of ?l_inner_of ?e_inner_of ?k_inner_of ?a_is_beat ?l_is_beat ?e_is_beat ?k_is_beat ?a_need_beat ?l_need_beat ?e_need_beat ?k_need_beat ?a_form ?l_form ?e_form ?k_form ?a_reduced ?l_reduced ?e_reduced ?k_reduced ?a_rate_of ?l_rate_of ?e_rate_of ?k_rate_of ?a__law_mix ?l__law_mix ?e__law_mix ?k__law_mix ?a__law_next ?l__law_next ?e__law_next ?k__law_next ?a_signs ?l_signs ?e_signs ?k_signs ?a_need_endless ?l_need_endless ?e_need_endless ?k_need_endless ?a_endless ?l_endless ?e_endless ?k_endless ?a_far_of ?l_far_of ?e_far_of ?k_far_of ?a_far ?l_far ?e_far ?k_far ?a_is_even ?l_is_even ?e_is_even ?k_is_even ?a__law_common ?l__law_common ?e__law_common ?k__law_common ?a__law_reduced ?l__law_reduced ?e__law_reduced ?k__law_reduced ?a__law_all ?l__law_all ?e__law_all ?k__law_all ?a__law_alike ?l__law_alike ?e__law_alike ?k__law_alike ?a_law ?l_law ?e_law ?k_law ?g_MOST_MOMENTS ?g_SIGNS ?q_SIGNS ?g_MOST_DIVIDED ?g_OF_TWO ?q_OF_TWO ?g_MOST_LATER ?g_MOST_LED ?g_MOST_TUPLES ?xg_TooLong ?xq_TooLong ?xk_TooLong ?xs_TooLong ?xt_TooLong ?xg_NoBeat ?xq_NoBeat ?xk_NoBeat ?xs_NoBeat ?xt_NoBeat ?xg_Ends ?xq_Ends ?xk_Ends ?xs_Ends ?xt_Ends ?z_len ?z_range ?z_list ?z_sum ?z_zip ?z_max ?z_min ?z_sorted ?z_set ?z_dict ?z_enumerate ?z_divmod ?z_isinstance ?z_int ?z_str ?z_bool ?z_tuple
    (case a_of_two => k_is)
    (case l_of_two => k_is)
    (case e_of_two => k_is)
    (case k_of_two => k_is)
    (case a_led_form => k_is)
    (case l_led_form => k_is)
    (case e_led_form => k_is)
    (case k_led_form => k_is)
    (case a_form_of => k_is)
    (case l_form_of => k_is)
    (case e_form_of => k_is)
    (case k_form_of => k_is)
    (case a_made_of => k_is)
    (case l_made_of => k_is)
    (case e_made_of => k_is)
    (case k_made_of => k_is)
    (case a_divisor => k_is)
    (case l_divisor => k_is)
    (case e_divisor => k_is)
    (case k_divisor => k_is)
    (case a_multiple => k_is)
    (case l_multiple => k_is)
    (case e_multiple => k_is)
    (case k_multiple => k_is)
    (case a_need_short => k_is)
    (case l_need_short => k_is)
    (case e_need_short => k_is)
    (case k_need_short => k_is)
    (case a_gaps_round => k_is)
    (case l_gaps_round => k_is)
    (case e_gaps_round => k_is)
    (case k_gaps_round => k_is)
    (case a_tick_at => k_is)
    (case l_tick_at => k_is)
    (case e_tick_at => k_is)
    (case k_tick_at => k_is)
    (case a_settled => k_is)
    (case l_settled => k_is)
    (case e_settled => k_is)
    (case k_settled => k_is)
    (case a_gated => k_is)
    (case l_gated => k_is)
    (case e_gated => k_is)
    (case k_gated => k_is)
    (case a_later => k_is)
    (case l_later => k_is)
    (case e_later => k_is)
    (case k_later => k_is)
    (case a_is_whole => k_is)
    (case l_is_whole => k_is)
    (case e_is_whole => k_is)
    (case k_is_whole => k_is)
    (case a_are_signs => k_is)
    (case l_are_signs => k_is)
    (case e_are_signs => k_is)
    (case k_are_signs => k_is)
    (case a_is_every => k_is)
    (case l_is_every => k_is)
    (case e_is_every => k_is)
    (case k_is_every => k_is)
    (case a_inner_of => k_is)
    (case l_inner_of => k_is)
    (case e_inner_of => k_is)
    (case k_inner_of => k_is)
    (case a_is_beat => k_is)
    (case l_is_beat => k_is)
    (case e_is_beat => k_is)
    (case k_is_beat => k_is)
    (case a_need_beat => k_is)
    (case l_need_beat => k_is)
    (case e_need_beat => k_is)
    (case k_need_beat => k_is)
    (case a_form => k_is)
    (case l_form => k_is)
    (case e_form => k_is)
    (case k_form => k_is)
    (case a_reduced => k_is)
    (case l_reduced => k_is)
    (case e_reduced => k_is)
    (case k_reduced => k_is)
    (case a_rate_of => k_is)
    (case l_rate_of => k_is)
    (case e_rate_of => k_is)
    (case k_rate_of => k_is)
    (case a__law_mix => k_is)
    (case l__law_mix => k_is)
    (case e__law_mix => k_is)
    (case k__law_mix => k_is)
    (case a__law_next => k_is)
    (case l__law_next => k_is)
    (case e__law_next => k_is)
    (case k__law_next => k_is)
    (case a_signs => k_is)
    (case l_signs => k_is)
    (case e_signs => k_is)
    (case k_signs => k_is)
    (case a_need_endless => k_is)
    (case l_need_endless => k_is)
    (case e_need_endless => k_is)
    (case k_need_endless => k_is)
    (case a_endless => k_is)
    (case l_endless => k_is)
    (case e_endless => k_is)
    (case k_endless => k_is)
    (case a_far_of => k_is)
    (case l_far_of => k_is)
    (case e_far_of => k_is)
    (case k_far_of => k_is)
    (case a_far => k_is)
    (case l_far => k_is)
    (case e_far => k_is)
    (case k_far => k_is)
    (case a_is_even => k_is)
    (case l_is_even => k_is)
    (case e_is_even => k_is)
    (case k_is_even => k_is)
    (case a__law_common => k_is)
    (case l__law_common => k_is)
    (case e__law_common => k_is)
    (case k__law_common => k_is)
    (case a__law_reduced => k_is)
    (case l__law_reduced => k_is)
    (case e__law_reduced => k_is)
    (case k__law_reduced => k_is)
    (case a__law_all => k_is)
    (case l__law_all => k_is)
    (case e__law_all => k_is)
    (case k__law_all => k_is)
    (case a__law_alike => k_is)
    (case l__law_alike => k_is)
    (case e__law_alike => k_is)
    (case k__law_alike => k_is)
    (case a_law => k_is)
    (case l_law => k_is)
    (case e_law => k_is)
    (case k_law => k_is)
    (case g_MOST_MOMENTS => k_is)
    (case g_SIGNS => k_is)
    (case q_SIGNS => k_is)
    (case g_MOST_DIVIDED => k_is)
    (case g_OF_TWO => k_is)
    (case q_OF_TWO => k_is)
    (case g_MOST_LATER => k_is)
    (case g_MOST_LED => k_is)
    (case g_MOST_TUPLES => k_is)
    (case xg_TooLong => k_is)
    (case xq_TooLong => k_exc)
    (case xk_TooLong => k_is)
    (case xs_TooLong => k_is)
    (case xt_TooLong => k_is)
    (case xg_NoBeat => k_is)
    (case xq_NoBeat => k_exc)
    (case xk_NoBeat => k_is)
    (case xs_NoBeat => k_is)
    (case xt_NoBeat => k_is)
    (case xg_Ends => k_is)
    (case xq_Ends => k_exc)
    (case xk_Ends => k_is)
    (case xs_Ends => k_is)
    (case xt_Ends => k_is)
    (case z_len => k_is)
    (case z_range => k_is)
    (case z_list => k_is)
    (case z_sum => k_is)
    (case z_zip => k_is)
    (case z_max => k_is)
    (case z_min => k_is)
    (case z_sorted => k_is)
    (case z_set => k_is)
    (case z_dict => k_is)
    (case z_enumerate => k_is)
    (case z_divmod => k_is)
    (case z_isinstance => k_is)
    (case z_int => k_is)
    (case z_str => k_is)
    (case z_bool => k_is)
    (case z_tuple => k_is)
